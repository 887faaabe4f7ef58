/- What is proved: the law PegChains returns true for every input. Conditions: none beyond the form's own.
   Texts: C18, P18a, P18b, P18c, P18d, P18e, P18f.
-/
import Derived.Test.YtepdkmdcainddaaPart3
import Derived.Test.YtepdkmdcainddaaProg
import Derived.KernelRfl
/- The seat's functions as the interpreter runs them: written by a program out of the loaded form, and shown equal to it below. -/
namespace Go.Proofs.Ytepdkmdcainddaa
open Go Go.Itp
set_option maxRecDepth 100000
/- raddle/raddlelaw18.PegChains -/
def c3 : AFun := ⟨
  .seq (.ops [⟨(some 1), none, .box 24 (.tmp 0)⟩,
      ⟨(some 2), none, .mov (.const (.bool false))⟩] [1])
  (.seq (.seq (.ops [⟨(some 26), none, .load (some 2) (.tmp 1)⟩,
      ⟨(some 27), none, .callF 4 [(.tmp 26)]⟩] [1, 27])
  (.cond (.tmp 27)
    (.seq (.ops [⟨(some 2), none, .mov (.const (.bool true))⟩] [2])
    (.ret))
    (.skip)))
  (.seq (.ops [⟨(some 28), none, .load (some 2) (.tmp 1)⟩,
      ⟨(some 29), none, .callF 5 [(.tmp 28)]⟩,
      ⟨(some 3), none, .alloc 24 [(1, (.int .i64 0)), (1, (.slice none 0 0))]⟩,
      ⟨none, none, .store 2 (.tmp 3) (.tmp 29)⟩] [1, 3])
  (.seq (.ops [⟨(some 31), none, .load (some 2) (.tmp 3)⟩,
      ⟨(some 32), none, .callF 6 [(.tmp 31)]⟩,
      ⟨(some 30), none, .mov (.tmp 32)⟩,
      ⟨(some 33), none, .ext (.tmp 30) 0⟩,
      ⟨(some 34), none, .ext (.tmp 30) 1⟩,
      ⟨(some 4), none, .alloc 29 [(2, (.int .i64 0)), (1, (.slice none 0 0))]⟩,
      ⟨none, none, .store 3 (.tmp 4) (.tmp 33)⟩,
      ⟨(some 5), none, .mov (.tmp 34)⟩] [1, 3, 4, 5])
  (.seq (.ops [⟨(some 36), none, .load (some 2) (.tmp 1)⟩,
      ⟨(some 37), none, .callF 7 [(.tmp 36)]⟩,
      ⟨(some 35), none, .mov (.tmp 37)⟩,
      ⟨(some 38), none, .ext (.tmp 35) 0⟩,
      ⟨(some 39), none, .ext (.tmp 35) 1⟩,
      ⟨(some 6), none, .alloc 29 [(2, (.int .i64 0)), (1, (.slice none 0 0))]⟩,
      ⟨none, none, .store 3 (.tmp 6) (.tmp 38)⟩,
      ⟨(some 7), none, .mov (.tmp 39)⟩] [1, 3, 4, 5, 6, 7])
  (.seq (.ops [⟨(some 41), none, .load (some 2) (.tmp 3)⟩,
      ⟨(some 42), none, .callF 8 [(.tmp 41)]⟩,
      ⟨(some 40), none, .mov (.tmp 42)⟩,
      ⟨(some 43), none, .ext (.tmp 40) 0⟩,
      ⟨(some 44), none, .ext (.tmp 40) 1⟩,
      ⟨(some 45), none, .ext (.tmp 40) 2⟩,
      ⟨(some 8), none, .mov (.tmp 43)⟩,
      ⟨(some 9), none, .mov (.tmp 44)⟩,
      ⟨(some 10), none, .mov (.tmp 45)⟩] [1, 3, 4, 5, 6, 7, 8, 9, 10])
  (.seq (.ops [⟨(some 47), none, .load (some 2) (.tmp 1)⟩,
      ⟨(some 48), none, .callF 9 [(.tmp 47)]⟩,
      ⟨(some 46), none, .mov (.tmp 48)⟩,
      ⟨(some 49), none, .ext (.tmp 46) 0⟩,
      ⟨(some 50), none, .ext (.tmp 46) 1⟩,
      ⟨(some 51), none, .ext (.tmp 46) 2⟩,
      ⟨(some 11), none, .mov (.tmp 49)⟩,
      ⟨(some 12), none, .mov (.tmp 50)⟩,
      ⟨(some 13), none, .mov (.tmp 51)⟩] [1, 3, 4, 5, 6, 7, 8, 9, 10, 11, 12, 13])
  (.seq (.seq (.ops [⟨(some 52), none, .load (some 3) (.tmp 4)⟩,
      ⟨(some 53), none, .load (some 3) (.tmp 6)⟩,
      ⟨(some 54), none, .callF 10 [(.tmp 52), (.tmp 53)]⟩,
      ⟨(some 55), none, .un .not (.tmp 54)⟩,
      ⟨(some 56), none, .mov (.tmp 55)⟩,
      ⟨(some 57), (some (56, false)), .mov (.tmp 5)⟩,
      ⟨(some 58), (some (56, false)), .mov (.tmp 7)⟩,
      ⟨(some 59), (some (56, false)), .bin .neq (.tmp 57) (.tmp 58)⟩,
      ⟨(some 60), none, .pick (.tmp 56) (.const (.bool true)) (.tmp 59)⟩,
      ⟨(some 61), none, .mov (.tmp 60)⟩,
      ⟨(some 62), (some (61, false)), .mov (.tmp 8)⟩,
      ⟨(some 63), (some (61, false)), .mov (.tmp 11)⟩,
      ⟨(some 64), (some (61, false)), .callF 11 [(.tmp 62), (.tmp 63)]⟩,
      ⟨(some 65), (some (61, false)), .un .not (.tmp 64)⟩,
      ⟨(some 66), none, .pick (.tmp 61) (.const (.bool true)) (.tmp 65)⟩,
      ⟨(some 67), none, .mov (.tmp 66)⟩,
      ⟨(some 68), (some (67, false)), .mov (.tmp 9)⟩,
      ⟨(some 69), (some (67, false)), .mov (.tmp 12)⟩,
      ⟨(some 70), (some (67, false)), .callF 11 [(.tmp 68), (.tmp 69)]⟩,
      ⟨(some 71), (some (67, false)), .un .not (.tmp 70)⟩,
      ⟨(some 72), none, .pick (.tmp 67) (.const (.bool true)) (.tmp 71)⟩,
      ⟨(some 73), none, .mov (.tmp 72)⟩,
      ⟨(some 74), (some (73, false)), .mov (.tmp 10)⟩,
      ⟨(some 75), (some (73, false)), .mov (.tmp 13)⟩,
      ⟨(some 76), (some (73, false)), .bin .neq (.tmp 74) (.tmp 75)⟩,
      ⟨(some 77), none, .pick (.tmp 73) (.const (.bool true)) (.tmp 76)⟩] [1, 3, 77])
  (.cond (.tmp 77)
    (.seq (.ops [⟨(some 2), none, .mov (.const (.bool false))⟩] [2])
    (.ret))
    (.skip)))
  (.seq (.ops [⟨(some 79), none, .load (some 2) (.tmp 3)⟩,
      ⟨(some 80), none, .callF 12 [(.tmp 79)]⟩,
      ⟨(some 78), none, .mov (.tmp 80)⟩,
      ⟨(some 81), none, .ext (.tmp 78) 0⟩,
      ⟨(some 82), none, .ext (.tmp 78) 1⟩,
      ⟨(some 83), none, .ext (.tmp 78) 2⟩,
      ⟨(some 84), none, .ext (.tmp 78) 3⟩,
      ⟨(some 14), none, .alloc 24 [(1, (.int .i64 0)), (1, (.slice none 0 0))]⟩,
      ⟨(some 15), none, .alloc 43 [(2, (.int .i64 0))]⟩,
      ⟨none, none, .store 2 (.tmp 14) (.tmp 81)⟩,
      ⟨none, none, .store 2 (.tmp 15) (.tmp 82)⟩,
      ⟨(some 16), none, .mov (.tmp 83)⟩,
      ⟨(some 17), none, .mov (.tmp 84)⟩] [1, 3, 14, 15, 16, 17])
  (.seq (.ops [⟨(some 86), none, .load (some 2) (.tmp 1)⟩,
      ⟨(some 87), none, .callF 13 [(.tmp 86)]⟩,
      ⟨(some 85), none, .mov (.tmp 87)⟩,
      ⟨(some 88), none, .ext (.tmp 85) 0⟩,
      ⟨(some 89), none, .ext (.tmp 85) 1⟩,
      ⟨(some 90), none, .ext (.tmp 85) 2⟩,
      ⟨(some 91), none, .ext (.tmp 85) 3⟩,
      ⟨(some 18), none, .alloc 24 [(1, (.int .i64 0)), (1, (.slice none 0 0))]⟩,
      ⟨(some 19), none, .alloc 43 [(2, (.int .i64 0))]⟩,
      ⟨none, none, .store 2 (.tmp 18) (.tmp 88)⟩,
      ⟨none, none, .store 2 (.tmp 19) (.tmp 89)⟩,
      ⟨(some 20), none, .mov (.tmp 90)⟩,
      ⟨(some 21), none, .mov (.tmp 91)⟩] [1, 3, 14, 15, 16, 17, 18, 19, 20, 21])
  (.seq (.ops [⟨(some 93), none, .load (some 2) (.tmp 3)⟩,
      ⟨(some 94), none, .callF 14 [(.tmp 93)]⟩,
      ⟨(some 92), none, .mov (.tmp 94)⟩,
      ⟨(some 95), none, .ext (.tmp 92) 0⟩,
      ⟨(some 96), none, .ext (.tmp 92) 1⟩,
      ⟨(some 22), none, .mov (.tmp 95)⟩,
      ⟨(some 23), none, .mov (.tmp 96)⟩] [1, 3, 14, 15, 16, 17, 18, 19, 20, 21, 22, 23])
  (.seq (.ops [⟨(some 98), none, .load (some 2) (.tmp 1)⟩,
      ⟨(some 99), none, .callF 15 [(.tmp 98)]⟩,
      ⟨(some 97), none, .mov (.tmp 99)⟩,
      ⟨(some 100), none, .ext (.tmp 97) 0⟩,
      ⟨(some 101), none, .ext (.tmp 97) 1⟩,
      ⟨(some 24), none, .mov (.tmp 100)⟩,
      ⟨(some 25), none, .mov (.tmp 101)⟩] [1, 3, 14, 15, 16, 17, 18, 19, 20, 21, 22, 23, 24, 25])
  (.seq (.ops [⟨(some 102), none, .load (some 2) (.tmp 14)⟩,
      ⟨(some 103), none, .load (some 2) (.tmp 18)⟩,
      ⟨(some 104), none, .callF 16 [(.tmp 102), (.tmp 103)]⟩,
      ⟨(some 105), none, .mov (.tmp 104)⟩,
      ⟨(some 106), (some (105, true)), .load (some 2) (.tmp 15)⟩,
      ⟨(some 107), (some (105, true)), .load (some 2) (.tmp 19)⟩,
      ⟨(some 108), (some (105, true)), .eqAgg false [(0, 0), (1, 0)] (.tmp 106) (.tmp 107)⟩,
      ⟨(some 109), none, .pick (.tmp 105) (.tmp 108) (.const (.bool false))⟩,
      ⟨(some 110), none, .mov (.tmp 109)⟩,
      ⟨(some 111), (some (110, true)), .mov (.tmp 16)⟩,
      ⟨(some 112), (some (110, true)), .mov (.tmp 20)⟩,
      ⟨(some 113), (some (110, true)), .eqB false (.tmp 111) (.tmp 112)⟩,
      ⟨(some 114), none, .pick (.tmp 110) (.tmp 113) (.const (.bool false))⟩,
      ⟨(some 115), none, .mov (.tmp 114)⟩,
      ⟨(some 116), (some (115, true)), .mov (.tmp 17)⟩,
      ⟨(some 117), (some (115, true)), .mov (.tmp 21)⟩,
      ⟨(some 118), (some (115, true)), .bin .eql (.tmp 116) (.tmp 117)⟩,
      ⟨(some 119), none, .pick (.tmp 115) (.tmp 118) (.const (.bool false))⟩,
      ⟨(some 120), none, .mov (.tmp 119)⟩,
      ⟨(some 121), (some (120, true)), .mov (.tmp 22)⟩,
      ⟨(some 122), (some (120, true)), .mov (.tmp 24)⟩,
      ⟨(some 123), (some (120, true)), .bin .eql (.tmp 121) (.tmp 122)⟩,
      ⟨(some 124), none, .pick (.tmp 120) (.tmp 123) (.const (.bool false))⟩,
      ⟨(some 125), none, .mov (.tmp 124)⟩,
      ⟨(some 126), (some (125, true)), .mov (.tmp 23)⟩,
      ⟨(some 127), (some (125, true)), .mov (.tmp 25)⟩,
      ⟨(some 128), (some (125, true)), .bin .eql (.tmp 126) (.tmp 127)⟩,
      ⟨(some 129), none, .pick (.tmp 125) (.tmp 128) (.const (.bool false))⟩,
      ⟨(some 130), none, .mov (.tmp 129)⟩,
      ⟨(some 131), (some (130, true)), .load (some 2) (.tmp 3)⟩,
      ⟨(some 132), (some (130, true)), .load (some 2) (.tmp 1)⟩,
      ⟨(some 133), (some (130, true)), .callF 16 [(.tmp 131), (.tmp 132)]⟩,
      ⟨(some 134), none, .pick (.tmp 130) (.tmp 133) (.const (.bool false))⟩,
      ⟨(some 2), none, .mov (.tmp 134)⟩] [2])
  (.ret))))))))))))),
  135, [(2, none)], true⟩
/- raddle/raddleref18.Great -/
def c4l0 : AC :=
  .seq (.seq (.ops [⟨(some 4), none, .mov (.tmp 3)⟩,
          ⟨(some 5), none, .fldA 1 (.tmp 1)⟩,
          ⟨(some 6), none, .load none (.tmp 5)⟩,
          ⟨(some 7), none, .len false (.tmp 6)⟩,
          ⟨(some 8), none, .bin .lss (.tmp 4) (.tmp 7)⟩] [1, 3, 8])
      (.cond (.tmp 8)
        (.skip)
        (.exit 0)))
      (.seq (.block 1
        (.seq (.ops [⟨(some 11), none, .fldA 1 (.tmp 1)⟩,
            ⟨(some 12), none, .load none (.tmp 11)⟩,
            ⟨(some 13), none, .mov (.tmp 3)⟩,
            ⟨(some 14), none, .idxS 1 (.tmp 12) (.tmp 13)⟩,
            ⟨(some 15), none, .load none (.tmp 14)⟩,
            ⟨(some 16), none, .len false (.tmp 15)⟩,
            ⟨(some 17), none, .bin .gtr (.tmp 16) (.const (.int .i64 50))⟩] [1, 3, 17])
        (.cond (.tmp 17)
          (.seq (.ops [⟨(some 2), none, .mov (.const (.bool true))⟩] [2])
          (.ret))
          (.skip))))
      (.ops [⟨(some 9), none, .mov (.tmp 3)⟩,
          ⟨(some 10), none, .bin .add (.tmp 9) (.const (.int .i64 1))⟩,
          ⟨(some 3), none, .mov (.tmp 10)⟩] [1, 3]))
def c4 : AFun := ⟨
  .seq (.ops [⟨(some 1), none, .box 24 (.tmp 0)⟩,
      ⟨(some 2), none, .mov (.const (.bool false))⟩] [1])
  (.seq (.seq (.ops [⟨(some 3), none, .mov (.const (.int .i64 0))⟩] [1, 3])
  (.block 0
    (.loop [1, 3]
      c4l0)))
  (.seq (.ops [⟨(some 18), none, .fldA 1 (.tmp 1)⟩,
      ⟨(some 19), none, .load none (.tmp 18)⟩,
      ⟨(some 20), none, .len false (.tmp 19)⟩,
      ⟨(some 21), none, .bin .gtr (.tmp 20) (.const (.int .i64 80))⟩,
      ⟨(some 2), none, .mov (.tmp 21)⟩] [2])
  (.ret))),
  22, [(2, none)], true⟩
/- raddle/raddleref18.Twin -/
def c5l0 : AC :=
  .seq (.seq (.ops [⟨(some 8), none, .mov (.tmp 4)⟩,
          ⟨(some 9), none, .fldA 1 (.tmp 1)⟩,
          ⟨(some 10), none, .load none (.tmp 9)⟩,
          ⟨(some 11), none, .len false (.tmp 10)⟩,
          ⟨(some 12), none, .bin .lss (.tmp 8) (.tmp 11)⟩] [1, 2, 3, 4, 12])
      (.cond (.tmp 12)
        (.skip)
        (.exit 0)))
      (.seq (.block 1
        (.draw [⟨(some 15), none, .fldA 1 (.tmp 3)⟩,
            ⟨(some 16), none, .load none (.tmp 15)⟩,
            ⟨(some 17), none, .mkRow 4 1 0 [(.bool false)] []⟩,
            ⟨(some 18), none, .fldA 1 (.tmp 1)⟩,
            ⟨(some 19), none, .load none (.tmp 18)⟩,
            ⟨(some 20), none, .mov (.tmp 4)⟩,
            ⟨(some 21), none, .idxS 1 (.tmp 19) (.tmp 20)⟩,
            ⟨(some 22), none, .load none (.tmp 21)⟩,
            ⟨(some 23), none, .app 4 1 1 (.tmp 17) (.tmp 22)⟩,
            ⟨(some 24), none, .mkRow 27 1 1 [(.slice none 0 0)] [(0, 1, (.tmp 23))]⟩] [⟨(some 25), none, .app 27 1 24 (.tmp 16) (.tmp 24)⟩,
            ⟨(some 26), none, .fldA 1 (.tmp 3)⟩,
            ⟨none, none, .store 1 (.tmp 26) (.tmp 25)⟩] [[], [], [], [false, false, false], [true, false, false, false], [false, false, false, false, false], [true, true, true, false, false, false], [true, true, true, true, false, false, false], [], []] [1, 2, 3, 4]))
      (.ops [⟨(some 13), none, .mov (.tmp 4)⟩,
          ⟨(some 14), none, .bin .add (.tmp 13) (.const (.int .i64 1))⟩,
          ⟨(some 4), none, .mov (.tmp 14)⟩] [1, 2, 3, 4]))
def c5 : AFun := ⟨
  .seq (.ops [⟨(some 1), none, .box 24 (.tmp 0)⟩,
      ⟨(some 2), none, .alloc 24 [(1, (.int .i64 0)), (1, (.slice none 0 0))]⟩] [1, 2])
  (.seq (.ops [⟨(some 5), none, .fldA 0 (.tmp 1)⟩,
      ⟨(some 6), none, .load none (.tmp 5)⟩,
      ⟨(some 7), none, .build [(.int .i64 0), (.slice none 0 0)] [(0, 1, (.tmp 6))]⟩,
      ⟨(some 3), none, .alloc 24 [(1, (.int .i64 0)), (1, (.slice none 0 0))]⟩,
      ⟨none, none, .store 2 (.tmp 3) (.tmp 7)⟩] [1, 2, 3])
  (.seq (.seq (.ops [⟨(some 4), none, .mov (.const (.int .i64 0))⟩] [1, 2, 3, 4])
  (.block 0
    (.loop [1, 2, 3, 4]
      c5l0)))
  (.seq (.ops [⟨(some 27), none, .load (some 2) (.tmp 3)⟩,
      ⟨none, none, .store 2 (.tmp 2) (.tmp 27)⟩] [2])
  (.ret)))),
  28, [(2, (some (some 2)))], false⟩
/- raddle/peg.Decode -/
def c6l0 : AC :=
  .seq (.ops [⟨(some 41), none, .bin .lss (.tmp 40) (.tmp 39)⟩] [2, 7, 38, 39, 40, 41])
      (.seq (.cond (.tmp 41)
        (.skip)
        (.exit 0))
      (.seq (.block 1
        (.seq (.ops [⟨(some 42), none, .idxS 1 (.tmp 38) (.tmp 40)⟩,
            ⟨(some 43), none, .load none (.tmp 42)⟩,
            ⟨(some 9), none, .mov (.tmp 43)⟩] [2, 7, 9, 38, 39, 40])
        (.draw [⟨(some 44), none, .fldA 2 (.tmp 7)⟩,
            ⟨(some 45), none, .load none (.tmp 44)⟩,
            ⟨(some 46), none, .mov (.tmp 9)⟩,
            ⟨(some 47), none, .fldA 0 (.tmp 7)⟩,
            ⟨(some 48), none, .load none (.tmp 47)⟩,
            ⟨(some 49), none, .slc 1 (.tmp 46) none (some (.tmp 48)) none⟩] [⟨(some 50), none, .app 4 1 1 (.tmp 45) (.tmp 49)⟩,
            ⟨(some 51), none, .fldA 2 (.tmp 7)⟩,
            ⟨none, none, .store 1 (.tmp 51) (.tmp 50)⟩] [[], [], [], [], [], []] [2, 7, 38, 39, 40])))
      (.ops [⟨(some 52), none, .bin .add (.tmp 40) (.const (.int .i64 1))⟩,
          ⟨(some 40), none, .mov (.tmp 52)⟩] [2, 7, 38, 39, 40])))
def c6 : AFun := ⟨
  .seq (.ops [⟨(some 1), none, .box 24 (.tmp 0)⟩,
      ⟨(some 2), none, .alloc 29 [(2, (.int .i64 0)), (1, (.slice none 0 0))]⟩,
      ⟨(some 3), none, .mov (.const (.int .i64 0))⟩] [1, 2])
  (.seq (.ops [⟨(some 11), none, .load (some 2) (.tmp 1)⟩,
      ⟨(some 12), none, .callF 8 [(.tmp 11)]⟩,
      ⟨(some 10), none, .mov (.tmp 12)⟩,
      ⟨(some 13), none, .ext (.tmp 10) 0⟩,
      ⟨(some 14), none, .ext (.tmp 10) 1⟩,
      ⟨(some 15), none, .ext (.tmp 10) 2⟩,
      ⟨(some 4), none, .mov (.tmp 13)⟩,
      ⟨(some 5), none, .mov (.tmp 14)⟩,
      ⟨(some 6), none, .mov (.tmp 15)⟩] [1, 2, 4, 5, 6])
  (.seq (.seq (.ops [⟨(some 16), none, .mov (.tmp 6)⟩,
      ⟨(some 17), none, .bin .neq (.tmp 16) (.const (.int .i64 0))⟩] [1, 2, 4, 5, 6, 17])
  (.cond (.tmp 17)
    (.seq (.ops [⟨(some 18), none, .build [(.int .i64 0), (.int .i64 0), (.slice none 0 0)] []⟩,
        ⟨(some 19), none, .mov (.tmp 6)⟩,
        ⟨none, none, .store 3 (.tmp 2) (.tmp 18)⟩,
        ⟨(some 3), none, .mov (.tmp 19)⟩] [2, 3])
    (.ret))
    (.skip)))
  (.seq (.seq (.ops [⟨(some 20), none, .mov (.tmp 4)⟩,
      ⟨(some 21), none, .len false (.tmp 20)⟩,
      ⟨(some 22), none, .mov (.tmp 5)⟩,
      ⟨(some 23), none, .len false (.tmp 22)⟩,
      ⟨(some 24), none, .bin .add (.tmp 21) (.tmp 23)⟩,
      ⟨(some 25), none, .bin .gtr (.tmp 24) (.const (.int .i64 0))⟩] [1, 2, 25])
  (.cond (.tmp 25)
    (.seq (.ops [⟨(some 26), none, .build [(.int .i64 0), (.int .i64 0), (.slice none 0 0)] []⟩,
        ⟨none, none, .store 3 (.tmp 2) (.tmp 26)⟩,
        ⟨(some 3), none, .mov (.const (.int .i64 30))⟩] [2, 3])
    (.ret))
    (.skip)))
  (.seq (.ops [⟨(some 27), none, .fldA 0 (.tmp 1)⟩,
      ⟨(some 28), none, .load none (.tmp 27)⟩,
      ⟨(some 29), none, .fldA 1 (.tmp 1)⟩,
      ⟨(some 30), none, .load none (.tmp 29)⟩,
      ⟨(some 31), none, .len false (.tmp 30)⟩,
      ⟨(some 32), none, .bin .sub (.tmp 31) (.const (.int .i64 1))⟩,
      ⟨(some 33), none, .build [(.int .i64 0), (.int .i64 0), (.slice none 0 0)] [(0, 1, (.tmp 28)), (1, 1, (.tmp 32))]⟩,
      ⟨(some 7), none, .alloc 29 [(2, (.int .i64 0)), (1, (.slice none 0 0))]⟩,
      ⟨none, none, .store 3 (.tmp 7) (.tmp 33)⟩] [1, 2, 7])
  (.seq (.seq (.ops [⟨(some 34), none, .fldA 1 (.tmp 1)⟩,
      ⟨(some 35), none, .load none (.tmp 34)⟩,
      ⟨(some 36), none, .fldA 1 (.tmp 7)⟩,
      ⟨(some 37), none, .load none (.tmp 36)⟩,
      ⟨(some 38), none, .slc 1 (.tmp 35) none (some (.tmp 37)) none⟩,
      ⟨(some 39), none, .len false (.tmp 38)⟩,
      ⟨(some 40), none, .mov (.const (.int .i64 0))⟩] [2, 7, 38, 39, 40])
  (.block 0
    (.loop [2, 7, 38, 39, 40]
      c6l0)))
  (.seq (.ops [⟨(some 53), none, .load (some 3) (.tmp 7)⟩,
      ⟨none, none, .store 3 (.tmp 2) (.tmp 53)⟩,
      ⟨(some 3), none, .mov (.const (.int .i64 0))⟩] [2, 3])
  (.ret))))))),
  54, [(2, (some (some 3))), (3, none)], false⟩
/- raddle/raddleref18.Decode -/
def c7l0 : AC :=
  .seq (.seq (.ops [⟨(some 42), none, .mov (.tmp 9)⟩,
                ⟨(some 43), none, .fldA 0 (.tmp 7)⟩,
                ⟨(some 44), none, .load none (.tmp 43)⟩,
                ⟨(some 45), none, .bin .lss (.tmp 42) (.tmp 44)⟩] [1, 2, 7, 8, 9, 45])
            (.cond (.tmp 45)
              (.skip)
              (.exit 2)))
            (.seq (.block 3
              (.draw [⟨(some 48), none, .load (some 3) (.tmp 7)⟩,
                  ⟨(some 49), none, .mov (.tmp 9)⟩,
                  ⟨(some 50), none, .mov (.tmp 8)⟩,
                  ⟨(some 51), none, .fldA 1 (.tmp 1)⟩,
                  ⟨(some 52), none, .load none (.tmp 51)⟩,
                  ⟨(some 53), none, .mov (.tmp 8)⟩,
                  ⟨(some 54), none, .idxS 1 (.tmp 52) (.tmp 53)⟩,
                  ⟨(some 55), none, .load none (.tmp 54)⟩,
                  ⟨(some 56), none, .mov (.tmp 9)⟩,
                  ⟨(some 57), none, .idxS 1 (.tmp 55) (.tmp 56)⟩,
                  ⟨(some 58), none, .load none (.tmp 57)⟩] [⟨(some 59), none, .callF 18 [(.tmp 48), (.tmp 49), (.tmp 50), (.tmp 58)]⟩] [[], [], [], [], [], [], [], [], [], [], []] [1, 2, 7, 8, 9]))
            (.ops [⟨(some 46), none, .mov (.tmp 9)⟩,
                ⟨(some 47), none, .bin .add (.tmp 46) (.const (.int .i64 1))⟩,
                ⟨(some 9), none, .mov (.tmp 47)⟩] [1, 2, 7, 8, 9]))
def c7l1 : AC :=
  .seq (.seq (.ops [⟨(some 36), none, .mov (.tmp 8)⟩,
          ⟨(some 37), none, .fldA 1 (.tmp 7)⟩,
          ⟨(some 38), none, .load none (.tmp 37)⟩,
          ⟨(some 39), none, .bin .lss (.tmp 36) (.tmp 38)⟩] [1, 2, 7, 8, 39])
      (.cond (.tmp 39)
        (.skip)
        (.exit 0)))
      (.seq (.block 1
        (.seq (.ops [⟨(some 9), none, .mov (.const (.int .i64 0))⟩] [1, 2, 7, 8, 9])
        (.block 2
          (.loop [1, 2, 7, 8, 9]
            c7l0))))
      (.ops [⟨(some 40), none, .mov (.tmp 8)⟩,
          ⟨(some 41), none, .bin .add (.tmp 40) (.const (.int .i64 1))⟩,
          ⟨(some 8), none, .mov (.tmp 41)⟩] [1, 2, 7, 8]))
def c7 : AFun := ⟨
  .seq (.ops [⟨(some 1), none, .box 24 (.tmp 0)⟩,
      ⟨(some 2), none, .alloc 29 [(2, (.int .i64 0)), (1, (.slice none 0 0))]⟩,
      ⟨(some 3), none, .mov (.const (.int .i64 0))⟩] [1, 2])
  (.seq (.ops [⟨(some 11), none, .load (some 2) (.tmp 1)⟩,
      ⟨(some 12), none, .callF 9 [(.tmp 11)]⟩,
      ⟨(some 10), none, .mov (.tmp 12)⟩,
      ⟨(some 13), none, .ext (.tmp 10) 0⟩,
      ⟨(some 14), none, .ext (.tmp 10) 1⟩,
      ⟨(some 15), none, .ext (.tmp 10) 2⟩,
      ⟨(some 4), none, .mov (.tmp 13)⟩,
      ⟨(some 5), none, .mov (.tmp 14)⟩,
      ⟨(some 6), none, .mov (.tmp 15)⟩] [1, 2, 4, 5, 6])
  (.seq (.seq (.ops [⟨(some 16), none, .mov (.tmp 6)⟩,
      ⟨(some 17), none, .bin .neq (.tmp 16) (.const (.int .i64 0))⟩] [1, 2, 4, 5, 6, 17])
  (.cond (.tmp 17)
    (.seq (.ops [⟨(some 18), none, .build [(.int .i64 0), (.int .i64 0), (.slice none 0 0)] []⟩,
        ⟨(some 19), none, .mov (.tmp 6)⟩,
        ⟨none, none, .store 3 (.tmp 2) (.tmp 18)⟩,
        ⟨(some 3), none, .mov (.tmp 19)⟩] [2, 3])
    (.ret))
    (.skip)))
  (.seq (.seq (.ops [⟨(some 20), none, .mov (.tmp 4)⟩,
      ⟨(some 21), none, .len false (.tmp 20)⟩,
      ⟨(some 22), none, .bin .gtr (.tmp 21) (.const (.int .i64 0))⟩,
      ⟨(some 23), none, .mov (.tmp 22)⟩,
      ⟨(some 24), (some (23, false)), .mov (.tmp 5)⟩,
      ⟨(some 25), (some (23, false)), .len false (.tmp 24)⟩,
      ⟨(some 26), (some (23, false)), .bin .gtr (.tmp 25) (.const (.int .i64 0))⟩,
      ⟨(some 27), none, .pick (.tmp 23) (.const (.bool true)) (.tmp 26)⟩] [1, 2, 27])
  (.cond (.tmp 27)
    (.seq (.ops [⟨(some 28), none, .build [(.int .i64 0), (.int .i64 0), (.slice none 0 0)] []⟩,
        ⟨none, none, .store 3 (.tmp 2) (.tmp 28)⟩,
        ⟨(some 3), none, .mov (.const (.int .i64 30))⟩] [2, 3])
    (.ret))
    (.skip)))
  (.seq (.ops [⟨(some 29), none, .fldA 0 (.tmp 1)⟩,
      ⟨(some 30), none, .load none (.tmp 29)⟩,
      ⟨(some 31), none, .fldA 1 (.tmp 1)⟩,
      ⟨(some 32), none, .load none (.tmp 31)⟩,
      ⟨(some 33), none, .len false (.tmp 32)⟩,
      ⟨(some 34), none, .bin .sub (.tmp 33) (.const (.int .i64 1))⟩,
      ⟨(some 35), none, .callF 17 [(.tmp 30), (.tmp 34)]⟩,
      ⟨(some 7), none, .alloc 29 [(2, (.int .i64 0)), (1, (.slice none 0 0))]⟩,
      ⟨none, none, .store 3 (.tmp 7) (.tmp 35)⟩] [1, 2, 7])
  (.seq (.seq (.ops [⟨(some 8), none, .mov (.const (.int .i64 0))⟩] [1, 2, 7, 8])
  (.block 0
    (.loop [1, 2, 7, 8]
      c7l1)))
  (.seq (.ops [⟨(some 60), none, .load (some 3) (.tmp 7)⟩,
      ⟨none, none, .store 3 (.tmp 2) (.tmp 60)⟩,
      ⟨(some 3), none, .mov (.const (.int .i64 0))⟩] [2, 3])
  (.ret))))))),
  61, [(2, (some (some 3))), (3, none)], false⟩
/- raddle/peg.Wrong -/
def c8l0 : AC :=
  .seq (.ops [⟨(some 32), none, .bin .lss (.tmp 31) (.tmp 30)⟩] [1, 2, 3, 30, 31, 32])
      (.seq (.cond (.tmp 32)
        (.skip)
        (.exit 2))
      (.seq (.block 3
        (.seq (.ops [⟨(some 33), none, .mov (.tmp 31)⟩,
            ⟨(some 7), none, .alloc 3 [(1, (.int .i64 0))]⟩,
            ⟨none, none, .store 1 (.tmp 7) (.tmp 33)⟩] [1, 2, 3, 7, 30, 31])
        (.seq (.ops [⟨(some 34), none, .fldA 1 (.tmp 1)⟩,
            ⟨(some 35), none, .load none (.tmp 34)⟩,
            ⟨(some 36), none, .len false (.tmp 35)⟩,
            ⟨(some 37), none, .mkFn 22 [] [(.tmp 1), (.tmp 7)]⟩,
            ⟨(some 38), none, .callF 20 [(.tmp 36), (.tmp 37)]⟩] [1, 2, 3, 7, 30, 31, 38])
        (.cond (.tmp 38)
          (.ops [⟨(some 39), none, .mov (.tmp 3)⟩,
              ⟨(some 40), none, .load none (.tmp 7)⟩,
              ⟨(some 41), none, .mkRow 3 1 1 [(.int .i64 0)] [(0, 1, (.tmp 40))]⟩,
              ⟨(some 42), none, .app 3 1 8 (.tmp 39) (.tmp 41)⟩,
              ⟨(some 3), none, .mov (.tmp 42)⟩] [1, 2, 3, 30, 31])
          (.skip)))))
      (.ops [⟨(some 43), none, .bin .add (.tmp 31) (.const (.int .i64 1))⟩,
          ⟨(some 31), none, .mov (.tmp 43)⟩] [1, 2, 3, 30, 31])))
def c8l1 : AC :=
  .seq (.ops [⟨(some 15), none, .bin .lss (.tmp 14) (.tmp 13)⟩] [1, 2, 3, 12, 13, 14, 15])
      (.seq (.cond (.tmp 15)
        (.skip)
        (.exit 0))
      (.seq (.block 1
        (.seq (.ops [⟨(some 16), none, .mov (.tmp 14)⟩,
            ⟨(some 17), none, .idxS 1 (.tmp 12) (.tmp 14)⟩,
            ⟨(some 18), none, .load none (.tmp 17)⟩,
            ⟨(some 6), none, .alloc 27 [(1, (.slice none 0 0))]⟩,
            ⟨(some 5), none, .mov (.tmp 16)⟩,
            ⟨none, none, .store 1 (.tmp 6) (.tmp 18)⟩] [1, 2, 3, 5, 6, 12, 13, 14])
        (.seq (.ops [⟨(some 19), none, .load none (.tmp 6)⟩,
            ⟨(some 20), none, .len false (.tmp 19)⟩,
            ⟨(some 21), none, .mkFn 21 [] [(.tmp 6)]⟩,
            ⟨(some 22), none, .callF 20 [(.tmp 20), (.tmp 21)]⟩] [1, 2, 3, 5, 12, 13, 14, 22])
        (.cond (.tmp 22)
          (.ops [⟨(some 23), none, .mov (.tmp 2)⟩,
              ⟨(some 24), none, .mov (.tmp 5)⟩,
              ⟨(some 25), none, .mkRow 3 1 1 [(.int .i64 0)] [(0, 1, (.tmp 24))]⟩,
              ⟨(some 26), none, .app 3 1 8 (.tmp 23) (.tmp 25)⟩,
              ⟨(some 2), none, .mov (.tmp 26)⟩] [1, 2, 3, 12, 13, 14])
          (.skip)))))
      (.ops [⟨(some 27), none, .bin .add (.tmp 14) (.const (.int .i64 1))⟩,
          ⟨(some 14), none, .mov (.tmp 27)⟩] [1, 2, 3, 12, 13, 14])))
def c8 : AFun := ⟨
  .seq (.ops [⟨(some 1), none, .box 24 (.tmp 0)⟩,
      ⟨(some 2), none, .mov (.const (.slice none 0 0))⟩,
      ⟨(some 3), none, .mov (.const (.slice none 0 0))⟩,
      ⟨(some 4), none, .mov (.const (.int .i64 0))⟩] [1, 2, 3])
  (.seq (.seq (.ops [⟨(some 8), none, .load (some 2) (.tmp 1)⟩,
      ⟨(some 9), none, .callF 19 [(.tmp 8)]⟩,
      ⟨(some 10), none, .un .not (.tmp 9)⟩] [1, 2, 3, 10])
  (.cond (.tmp 10)
    (.seq (.ops [⟨(some 2), none, .mov (.const (.slice none 0 0))⟩,
        ⟨(some 3), none, .mov (.const (.slice none 0 0))⟩,
        ⟨(some 4), none, .mov (.const (.int .i64 8))⟩] [2, 3, 4])
    (.ret))
    (.skip)))
  (.seq (.seq (.ops [⟨(some 11), none, .fldA 1 (.tmp 1)⟩,
      ⟨(some 12), none, .load none (.tmp 11)⟩,
      ⟨(some 13), none, .len false (.tmp 12)⟩,
      ⟨(some 14), none, .mov (.const (.int .i64 0))⟩] [1, 2, 3, 12, 13, 14])
  (.block 0
    (.loop [1, 2, 3, 12, 13, 14]
      c8l1)))
  (.seq (.seq (.ops [⟨(some 28), none, .fldA 0 (.tmp 1)⟩,
      ⟨(some 29), none, .load none (.tmp 28)⟩,
      ⟨(some 30), none, .bin .add (.tmp 29) (.const (.int .i64 1))⟩,
      ⟨(some 31), none, .mov (.const (.int .i64 0))⟩] [1, 2, 3, 30, 31])
  (.block 2
    (.loop [1, 2, 3, 30, 31]
      c8l0)))
  (.seq (.ops [⟨(some 44), none, .mov (.tmp 2)⟩,
      ⟨(some 45), none, .mov (.tmp 3)⟩,
      ⟨(some 2), none, .mov (.tmp 44)⟩,
      ⟨(some 3), none, .mov (.tmp 45)⟩,
      ⟨(some 4), none, .mov (.const (.int .i64 0))⟩] [2, 3, 4])
  (.ret))))),
  46, [(2, none), (3, none), (4, none)], false⟩
/- raddle/raddleref18.Wrong -/
def c9l0 : AC :=
  .seq (.seq (.ops [⟨(some 33), none, .mov (.tmp 8)⟩,
          ⟨(some 34), none, .fldA 0 (.tmp 1)⟩,
          ⟨(some 35), none, .load none (.tmp 34)⟩,
          ⟨(some 36), none, .bin .leq (.tmp 33) (.tmp 35)⟩] [1, 5, 6, 8, 36])
      (.cond (.tmp 36)
        (.skip)
        (.exit 2)))
      (.seq (.block 3
        (.seq (.ops [⟨(some 39), none, .fldA 1 (.tmp 1)⟩,
            ⟨(some 40), none, .load none (.tmp 39)⟩,
            ⟨(some 41), none, .mov (.tmp 8)⟩,
            ⟨(some 42), none, .callF 25 [(.tmp 40), (.tmp 41)]⟩,
            ⟨(some 43), none, .callF 24 [(.tmp 42)]⟩,
            ⟨(some 44), none, .bin .rem (.tmp 43) (.const (.int .i64 2))⟩,
            ⟨(some 45), none, .bin .eql (.tmp 44) (.const (.int .i64 1))⟩] [1, 5, 6, 8, 45])
        (.cond (.tmp 45)
          (.ops [⟨(some 46), none, .mov (.tmp 6)⟩,
              ⟨(some 47), none, .mov (.tmp 8)⟩,
              ⟨(some 48), none, .mkRow 3 1 1 [(.int .i64 0)] [(0, 1, (.tmp 47))]⟩,
              ⟨(some 49), none, .app 3 1 8 (.tmp 46) (.tmp 48)⟩,
              ⟨(some 6), none, .mov (.tmp 49)⟩] [1, 5, 6, 8])
          (.skip))))
      (.ops [⟨(some 37), none, .mov (.tmp 8)⟩,
          ⟨(some 38), none, .bin .add (.tmp 37) (.const (.int .i64 1))⟩,
          ⟨(some 8), none, .mov (.tmp 38)⟩] [1, 5, 6, 8]))
def c9l1 : AC :=
  .seq (.seq (.ops [⟨(some 14), none, .mov (.tmp 7)⟩,
          ⟨(some 15), none, .fldA 1 (.tmp 1)⟩,
          ⟨(some 16), none, .load none (.tmp 15)⟩,
          ⟨(some 17), none, .len false (.tmp 16)⟩,
          ⟨(some 18), none, .bin .lss (.tmp 14) (.tmp 17)⟩] [1, 5, 6, 7, 18])
      (.cond (.tmp 18)
        (.skip)
        (.exit 0)))
      (.seq (.block 1
        (.seq (.ops [⟨(some 21), none, .fldA 1 (.tmp 1)⟩,
            ⟨(some 22), none, .load none (.tmp 21)⟩,
            ⟨(some 23), none, .mov (.tmp 7)⟩,
            ⟨(some 24), none, .idxS 1 (.tmp 22) (.tmp 23)⟩,
            ⟨(some 25), none, .load none (.tmp 24)⟩,
            ⟨(some 26), none, .callF 24 [(.tmp 25)]⟩,
            ⟨(some 27), none, .bin .rem (.tmp 26) (.const (.int .i64 2))⟩,
            ⟨(some 28), none, .bin .eql (.tmp 27) (.const (.int .i64 1))⟩] [1, 5, 6, 7, 28])
        (.cond (.tmp 28)
          (.ops [⟨(some 29), none, .mov (.tmp 5)⟩,
              ⟨(some 30), none, .mov (.tmp 7)⟩,
              ⟨(some 31), none, .mkRow 3 1 1 [(.int .i64 0)] [(0, 1, (.tmp 30))]⟩,
              ⟨(some 32), none, .app 3 1 8 (.tmp 29) (.tmp 31)⟩,
              ⟨(some 5), none, .mov (.tmp 32)⟩] [1, 5, 6, 7])
          (.skip))))
      (.ops [⟨(some 19), none, .mov (.tmp 7)⟩,
          ⟨(some 20), none, .bin .add (.tmp 19) (.const (.int .i64 1))⟩,
          ⟨(some 7), none, .mov (.tmp 20)⟩] [1, 5, 6, 7]))
def c9 : AFun := ⟨
  .seq (.ops [⟨(some 1), none, .box 24 (.tmp 0)⟩,
      ⟨(some 2), none, .mov (.const (.slice none 0 0))⟩,
      ⟨(some 3), none, .mov (.const (.slice none 0 0))⟩,
      ⟨(some 4), none, .mov (.const (.int .i64 0))⟩] [1])
  (.seq (.seq (.ops [⟨(some 9), none, .load (some 2) (.tmp 1)⟩,
      ⟨(some 10), none, .callF 23 [(.tmp 9)]⟩,
      ⟨(some 11), none, .bin .neq (.tmp 10) (.const (.int .i64 0))⟩] [1, 11])
  (.cond (.tmp 11)
    (.seq (.ops [⟨(some 12), none, .load (some 2) (.tmp 1)⟩,
        ⟨(some 13), none, .callF 23 [(.tmp 12)]⟩,
        ⟨(some 2), none, .mov (.const (.slice none 0 0))⟩,
        ⟨(some 3), none, .mov (.const (.slice none 0 0))⟩,
        ⟨(some 4), none, .mov (.tmp 13)⟩] [2, 3, 4])
    (.ret))
    (.skip)))
  (.seq (.ops [⟨(some 5), none, .mov (.const (.slice none 0 0))⟩,
      ⟨(some 6), none, .mov (.const (.slice none 0 0))⟩] [1, 5, 6])
  (.seq (.seq (.ops [⟨(some 7), none, .mov (.const (.int .i64 0))⟩] [1, 5, 6, 7])
  (.block 0
    (.loop [1, 5, 6, 7]
      c9l1)))
  (.seq (.seq (.ops [⟨(some 8), none, .mov (.const (.int .i64 0))⟩] [1, 5, 6, 8])
  (.block 2
    (.loop [1, 5, 6, 8]
      c9l0)))
  (.seq (.ops [⟨(some 50), none, .mov (.tmp 5)⟩,
      ⟨(some 51), none, .mov (.tmp 6)⟩,
      ⟨(some 2), none, .mov (.tmp 50)⟩,
      ⟨(some 3), none, .mov (.tmp 51)⟩,
      ⟨(some 4), none, .mov (.const (.int .i64 0))⟩] [2, 3, 4])
  (.ret)))))),
  52, [(2, none), (3, none), (4, none)], false⟩
/- raddle/raddleref01.Same -/
def c10l0 : AC :=
  .seq (.seq (.ops [⟨(some 27), none, .mov (.tmp 5)⟩,
          ⟨(some 28), none, .fldA 2 (.tmp 2)⟩,
          ⟨(some 29), none, .load none (.tmp 28)⟩,
          ⟨(some 30), none, .len false (.tmp 29)⟩,
          ⟨(some 31), none, .bin .lss (.tmp 27) (.tmp 30)⟩] [2, 3, 5, 31])
      (.cond (.tmp 31)
        (.skip)
        (.exit 0)))
      (.seq (.block 1
        (.seq (.draw [⟨(some 34), none, .fldA 2 (.tmp 2)⟩,
            ⟨(some 35), none, .load none (.tmp 34)⟩,
            ⟨(some 36), none, .mov (.tmp 5)⟩,
            ⟨(some 37), none, .idxS 1 (.tmp 35) (.tmp 36)⟩,
            ⟨(some 38), none, .load none (.tmp 37)⟩,
            ⟨(some 39), none, .fldA 2 (.tmp 3)⟩,
            ⟨(some 40), none, .load none (.tmp 39)⟩,
            ⟨(some 41), none, .mov (.tmp 5)⟩,
            ⟨(some 42), none, .idxS 1 (.tmp 40) (.tmp 41)⟩,
            ⟨(some 43), none, .load none (.tmp 42)⟩] [⟨(some 44), none, .eqB true (.tmp 38) (.tmp 43)⟩] [[], [], [], [], [], [], [], [], [], []] [2, 3, 5, 44])
        (.cond (.tmp 44)
          (.seq (.ops [⟨(some 4), none, .mov (.const (.bool false))⟩] [4])
          (.ret))
          (.skip))))
      (.ops [⟨(some 32), none, .mov (.tmp 5)⟩,
          ⟨(some 33), none, .bin .add (.tmp 32) (.const (.int .i64 1))⟩,
          ⟨(some 5), none, .mov (.tmp 33)⟩] [2, 3, 5]))
def c10 : AFun := ⟨
  .seq (.ops [⟨(some 2), none, .box 29 (.tmp 0)⟩,
      ⟨(some 3), none, .box 29 (.tmp 1)⟩,
      ⟨(some 4), none, .mov (.const (.bool false))⟩] [2, 3])
  (.seq (.seq (.ops [⟨(some 6), none, .fldA 0 (.tmp 2)⟩,
      ⟨(some 7), none, .load none (.tmp 6)⟩,
      ⟨(some 8), none, .fldA 0 (.tmp 3)⟩,
      ⟨(some 9), none, .load none (.tmp 8)⟩,
      ⟨(some 10), none, .bin .neq (.tmp 7) (.tmp 9)⟩,
      ⟨(some 11), none, .mov (.tmp 10)⟩,
      ⟨(some 12), (some (11, false)), .fldA 1 (.tmp 2)⟩,
      ⟨(some 13), (some (11, false)), .load none (.tmp 12)⟩,
      ⟨(some 14), (some (11, false)), .fldA 1 (.tmp 3)⟩,
      ⟨(some 15), (some (11, false)), .load none (.tmp 14)⟩,
      ⟨(some 16), (some (11, false)), .bin .neq (.tmp 13) (.tmp 15)⟩,
      ⟨(some 17), none, .pick (.tmp 11) (.const (.bool true)) (.tmp 16)⟩,
      ⟨(some 18), none, .mov (.tmp 17)⟩,
      ⟨(some 19), (some (18, false)), .fldA 2 (.tmp 2)⟩,
      ⟨(some 20), (some (18, false)), .load none (.tmp 19)⟩,
      ⟨(some 21), (some (18, false)), .len false (.tmp 20)⟩,
      ⟨(some 22), (some (18, false)), .fldA 2 (.tmp 3)⟩,
      ⟨(some 23), (some (18, false)), .load none (.tmp 22)⟩,
      ⟨(some 24), (some (18, false)), .len false (.tmp 23)⟩,
      ⟨(some 25), (some (18, false)), .bin .neq (.tmp 21) (.tmp 24)⟩,
      ⟨(some 26), none, .pick (.tmp 18) (.const (.bool true)) (.tmp 25)⟩] [2, 3, 26])
  (.cond (.tmp 26)
    (.seq (.ops [⟨(some 4), none, .mov (.const (.bool false))⟩] [4])
    (.ret))
    (.skip)))
  (.seq (.seq (.ops [⟨(some 5), none, .mov (.const (.int .i64 0))⟩] [2, 3, 5])
  (.block 0
    (.loop [2, 3, 5]
      c10l0)))
  (.seq (.ops [⟨(some 4), none, .mov (.const (.bool true))⟩] [4])
  (.ret)))),
  45, [(4, none)], true⟩
/- raddle/raddleref02.Same -/
def c11l0 : AC :=
  .seq (.seq (.ops [⟨(some 11), none, .mov (.tmp 5)⟩,
          ⟨(some 12), none, .mov (.tmp 0)⟩,
          ⟨(some 13), none, .len false (.tmp 12)⟩,
          ⟨(some 14), none, .bin .lss (.tmp 11) (.tmp 13)⟩] [0, 1, 5, 14])
      (.cond (.tmp 14)
        (.skip)
        (.exit 0)))
      (.seq (.block 1
        (.seq (.draw [⟨(some 17), none, .mov (.tmp 0)⟩,
            ⟨(some 18), none, .mov (.tmp 5)⟩,
            ⟨(some 19), none, .idxS 1 (.tmp 17) (.tmp 18)⟩,
            ⟨(some 20), none, .load none (.tmp 19)⟩,
            ⟨(some 21), none, .mov (.tmp 1)⟩,
            ⟨(some 22), none, .mov (.tmp 5)⟩,
            ⟨(some 23), none, .idxS 1 (.tmp 21) (.tmp 22)⟩,
            ⟨(some 24), none, .load none (.tmp 23)⟩] [⟨(some 25), none, .bin .neq (.tmp 20) (.tmp 24)⟩] [[], [], [], [], [], [], [], []] [0, 1, 5, 25])
        (.cond (.tmp 25)
          (.seq (.ops [⟨(some 4), none, .mov (.const (.bool false))⟩] [4])
          (.ret))
          (.skip))))
      (.ops [⟨(some 15), none, .mov (.tmp 5)⟩,
          ⟨(some 16), none, .bin .add (.tmp 15) (.const (.int .i64 1))⟩,
          ⟨(some 5), none, .mov (.tmp 16)⟩] [0, 1, 5]))
def c11 : AFun := ⟨
  .seq (.ops [⟨(some 4), none, .mov (.const (.bool false))⟩] [0, 1])
  (.seq (.seq (.ops [⟨(some 6), none, .mov (.tmp 0)⟩,
      ⟨(some 7), none, .len false (.tmp 6)⟩,
      ⟨(some 8), none, .mov (.tmp 1)⟩,
      ⟨(some 9), none, .len false (.tmp 8)⟩,
      ⟨(some 10), none, .bin .neq (.tmp 7) (.tmp 9)⟩] [0, 1, 10])
  (.cond (.tmp 10)
    (.seq (.ops [⟨(some 4), none, .mov (.const (.bool false))⟩] [4])
    (.ret))
    (.skip)))
  (.seq (.seq (.ops [⟨(some 5), none, .mov (.const (.int .i64 0))⟩] [0, 1, 5])
  (.block 0
    (.loop [0, 1, 5]
      c11l0)))
  (.seq (.ops [⟨(some 4), none, .mov (.const (.bool true))⟩] [4])
  (.ret)))),
  26, [(4, none)], true⟩
/- raddle/peg.Mend -/
def c12l0 : AC :=
  .seq (.ops [⟨(some 30), none, .bin .lss (.tmp 29) (.tmp 28)⟩] [2, 3, 6, 7, 8, 27, 28, 29, 30])
      (.seq (.cond (.tmp 30)
        (.skip)
        (.exit 0))
      (.seq (.block 1
        (.seq (.ops [⟨(some 31), none, .idxS 1 (.tmp 27) (.tmp 29)⟩,
            ⟨(some 32), none, .load none (.tmp 31)⟩,
            ⟨(some 10), none, .mov (.tmp 32)⟩] [2, 3, 6, 7, 8, 10, 27, 28, 29])
        (.seq (.ops [⟨(some 33), none, .mov (.tmp 10)⟩,
            ⟨(some 34), none, .len false (.tmp 33)⟩,
            ⟨(some 35), none, .mkSlice 4 1 1 [(.bool false)] (.tmp 34) (.tmp 34)⟩,
            ⟨(some 11), none, .mov (.tmp 35)⟩] [2, 3, 6, 7, 8, 10, 11, 27, 28, 29])
        (.seq (.ops [⟨(some 36), none, .mov (.tmp 11)⟩,
            ⟨(some 37), none, .mov (.tmp 10)⟩,
            ⟨(some 38), none, .copy 1 (.tmp 36) (.tmp 37)⟩] [2, 3, 6, 7, 8, 11, 27, 28, 29])
        (.ops [⟨(some 39), none, .fldA 1 (.tmp 8)⟩,
            ⟨(some 40), none, .load none (.tmp 39)⟩,
            ⟨(some 41), none, .mov (.tmp 11)⟩,
            ⟨(some 42), none, .mkRow 27 1 1 [(.slice none 0 0)] [(0, 1, (.tmp 41))]⟩,
            ⟨(some 43), none, .app 27 1 24 (.tmp 40) (.tmp 42)⟩,
            ⟨(some 44), none, .fldA 1 (.tmp 8)⟩,
            ⟨none, none, .store 1 (.tmp 44) (.tmp 43)⟩] [2, 3, 6, 7, 8, 27, 28, 29])))))
      (.ops [⟨(some 45), none, .bin .add (.tmp 29) (.const (.int .i64 1))⟩,
          ⟨(some 29), none, .mov (.tmp 45)⟩] [2, 3, 6, 7, 8, 27, 28, 29])))
def c12 : AFun := ⟨
  .seq (.ops [⟨(some 1), none, .box 24 (.tmp 0)⟩,
      ⟨(some 2), none, .alloc 24 [(1, (.int .i64 0)), (1, (.slice none 0 0))]⟩,
      ⟨(some 3), none, .alloc 43 [(2, (.int .i64 0))]⟩,
      ⟨(some 4), none, .mov (.const (.bool false))⟩,
      ⟨(some 5), none, .mov (.const (.int .i64 0))⟩] [1, 2, 3])
  (.seq (.ops [⟨(some 13), none, .load (some 2) (.tmp 1)⟩,
      ⟨(some 14), none, .callF 8 [(.tmp 13)]⟩,
      ⟨(some 12), none, .mov (.tmp 14)⟩,
      ⟨(some 15), none, .ext (.tmp 12) 0⟩,
      ⟨(some 16), none, .ext (.tmp 12) 1⟩,
      ⟨(some 17), none, .ext (.tmp 12) 2⟩,
      ⟨(some 6), none, .mov (.tmp 15)⟩,
      ⟨(some 7), none, .mov (.tmp 16)⟩,
      ⟨(some 5), none, .mov (.tmp 17)⟩] [1, 2, 3, 5, 6, 7])
  (.seq (.seq (.ops [⟨(some 18), none, .mov (.tmp 5)⟩,
      ⟨(some 19), none, .bin .neq (.tmp 18) (.const (.int .i64 0))⟩] [1, 2, 3, 5, 6, 7, 19])
  (.cond (.tmp 19)
    (.seq (.ops [⟨(some 20), none, .build [(.int .i64 0), (.slice none 0 0)] []⟩,
        ⟨(some 21), none, .build [(.int .i64 0), (.int .i64 0)] []⟩,
        ⟨(some 22), none, .mov (.tmp 5)⟩,
        ⟨none, none, .store 2 (.tmp 2) (.tmp 20)⟩,
        ⟨none, none, .store 2 (.tmp 3) (.tmp 21)⟩,
        ⟨(some 4), none, .mov (.const (.bool false))⟩,
        ⟨(some 5), none, .mov (.tmp 22)⟩] [2, 3, 4, 5])
    (.ret))
    (.skip)))
  (.seq (.ops [⟨(some 23), none, .fldA 0 (.tmp 1)⟩,
      ⟨(some 24), none, .load none (.tmp 23)⟩,
      ⟨(some 25), none, .build [(.int .i64 0), (.slice none 0 0)] [(0, 1, (.tmp 24))]⟩,
      ⟨(some 8), none, .alloc 24 [(1, (.int .i64 0)), (1, (.slice none 0 0))]⟩,
      ⟨none, none, .store 2 (.tmp 8) (.tmp 25)⟩] [1, 2, 3, 6, 7, 8])
  (.seq (.seq (.ops [⟨(some 26), none, .fldA 1 (.tmp 1)⟩,
      ⟨(some 27), none, .load none (.tmp 26)⟩,
      ⟨(some 28), none, .len false (.tmp 27)⟩,
      ⟨(some 29), none, .mov (.const (.int .i64 0))⟩] [2, 3, 6, 7, 8, 27, 28, 29])
  (.block 0
    (.loop [2, 3, 6, 7, 8, 27, 28, 29]
      c12l0)))
  (.seq (.seq (.ops [⟨(some 46), none, .mov (.tmp 6)⟩,
      ⟨(some 47), none, .len false (.tmp 46)⟩,
      ⟨(some 48), none, .bin .eql (.tmp 47) (.const (.int .i64 0))⟩,
      ⟨(some 49), none, .mov (.tmp 48)⟩,
      ⟨(some 50), (some (49, true)), .mov (.tmp 7)⟩,
      ⟨(some 51), (some (49, true)), .len false (.tmp 50)⟩,
      ⟨(some 52), (some (49, true)), .bin .eql (.tmp 51) (.const (.int .i64 0))⟩,
      ⟨(some 53), none, .pick (.tmp 49) (.tmp 52) (.const (.bool false))⟩] [2, 3, 6, 7, 8, 53])
  (.cond (.tmp 53)
    (.seq (.ops [⟨(some 54), none, .load (some 2) (.tmp 8)⟩,
        ⟨(some 55), none, .build [(.int .i64 0), (.int .i64 0)] []⟩,
        ⟨none, none, .store 2 (.tmp 2) (.tmp 54)⟩,
        ⟨none, none, .store 2 (.tmp 3) (.tmp 55)⟩,
        ⟨(some 4), none, .mov (.const (.bool false))⟩,
        ⟨(some 5), none, .mov (.const (.int .i64 0))⟩] [2, 3, 4, 5])
    (.ret))
    (.skip)))
  (.seq (.seq (.ops [⟨(some 56), none, .mov (.tmp 6)⟩,
      ⟨(some 57), none, .len false (.tmp 56)⟩,
      ⟨(some 58), none, .bin .neq (.tmp 57) (.const (.int .i64 1))⟩,
      ⟨(some 59), none, .mov (.tmp 58)⟩,
      ⟨(some 60), (some (59, false)), .mov (.tmp 7)⟩,
      ⟨(some 61), (some (59, false)), .len false (.tmp 60)⟩,
      ⟨(some 62), (some (59, false)), .bin .neq (.tmp 61) (.const (.int .i64 1))⟩,
      ⟨(some 63), none, .pick (.tmp 59) (.const (.bool true)) (.tmp 62)⟩] [2, 3, 6, 7, 8, 63])
  (.cond (.tmp 63)
    (.seq (.ops [⟨(some 64), none, .build [(.int .i64 0), (.slice none 0 0)] []⟩,
        ⟨(some 65), none, .build [(.int .i64 0), (.int .i64 0)] []⟩,
        ⟨none, none, .store 2 (.tmp 2) (.tmp 64)⟩,
        ⟨none, none, .store 2 (.tmp 3) (.tmp 65)⟩,
        ⟨(some 4), none, .mov (.const (.bool false))⟩,
        ⟨(some 5), none, .mov (.const (.int .i64 30))⟩] [2, 3, 4, 5])
    (.ret))
    (.skip)))
  (.seq (.draw [⟨(some 66), none, .mov (.tmp 7)⟩,
      ⟨(some 67), none, .idxS 1 (.tmp 66) (.const (.int .i64 0))⟩,
      ⟨(some 68), none, .load none (.tmp 67)⟩,
      ⟨(some 69), none, .mov (.tmp 6)⟩,
      ⟨(some 70), none, .idxS 1 (.tmp 69) (.const (.int .i64 0))⟩,
      ⟨(some 71), none, .load none (.tmp 70)⟩] [⟨(some 72), none, .build [(.int .i64 0), (.int .i64 0)] [(0, 1, (.tmp 68)), (1, 1, (.tmp 71))]⟩,
      ⟨none, none, .store 2 (.tmp 3) (.tmp 72)⟩] [[], [], [], [], [], []] [2, 3, 8])
  (.seq (.draw [⟨(some 73), none, .fldA 1 (.tmp 8)⟩,
      ⟨(some 74), none, .load none (.tmp 73)⟩,
      ⟨(some 75), none, .fldA 1 (.tmp 3)⟩,
      ⟨(some 76), none, .load none (.tmp 75)⟩,
      ⟨(some 77), none, .idxS 1 (.tmp 74) (.tmp 76)⟩,
      ⟨(some 78), none, .load none (.tmp 77)⟩,
      ⟨(some 79), none, .fldA 0 (.tmp 3)⟩,
      ⟨(some 80), none, .load none (.tmp 79)⟩,
      ⟨(some 81), none, .fldA 1 (.tmp 8)⟩,
      ⟨(some 82), none, .load none (.tmp 81)⟩,
      ⟨(some 83), none, .fldA 1 (.tmp 3)⟩,
      ⟨(some 84), none, .load none (.tmp 83)⟩,
      ⟨(some 85), none, .idxS 1 (.tmp 82) (.tmp 84)⟩,
      ⟨(some 86), none, .load none (.tmp 85)⟩,
      ⟨(some 87), none, .fldA 0 (.tmp 3)⟩,
      ⟨(some 88), none, .load none (.tmp 87)⟩,
      ⟨(some 89), none, .idxS 1 (.tmp 86) (.tmp 88)⟩,
      ⟨(some 90), none, .load none (.tmp 89)⟩,
      ⟨(some 91), none, .un .not (.tmp 90)⟩] [⟨(some 92), none, .idxS 1 (.tmp 78) (.tmp 80)⟩,
      ⟨none, none, .store 1 (.tmp 92) (.tmp 91)⟩] [[], [], [], [], [], [], [], [], [], [], [], [], [], [], [], [], [], [], []] [2, 3, 8])
  (.seq (.drawW [⟨⟨(some 93), none, .load (some 2) (.tmp 8)⟩, [], none⟩,
      ⟨⟨(some 94), none, .load (some 2) (.tmp 3)⟩, [0], none⟩,
      ⟨⟨none, none, .store 2 (.tmp 2) (.tmp 93)⟩, [1], none⟩] [⟨none, none, .store 2 (.tmp 3) (.tmp 94)⟩,
      ⟨(some 4), none, .mov (.const (.bool true))⟩,
      ⟨(some 5), none, .mov (.const (.int .i64 0))⟩] [2, 3, 4, 5])
  (.ret)))))))))),
  95, [(2, (some (some 2))), (3, (some (some 2))), (4, none), (5, none)], false⟩
/- raddle/raddleref18.Mend -/
def c13 : AFun := ⟨
  .seq (.ops [⟨(some 1), none, .box 24 (.tmp 0)⟩,
      ⟨(some 2), none, .alloc 24 [(1, (.int .i64 0)), (1, (.slice none 0 0))]⟩,
      ⟨(some 3), none, .alloc 43 [(2, (.int .i64 0))]⟩,
      ⟨(some 4), none, .mov (.const (.bool false))⟩,
      ⟨(some 5), none, .mov (.const (.int .i64 0))⟩] [1, 2, 3])
  (.seq (.ops [⟨(some 11), none, .load (some 2) (.tmp 1)⟩,
      ⟨(some 12), none, .callF 9 [(.tmp 11)]⟩,
      ⟨(some 10), none, .mov (.tmp 12)⟩,
      ⟨(some 13), none, .ext (.tmp 10) 0⟩,
      ⟨(some 14), none, .ext (.tmp 10) 1⟩,
      ⟨(some 15), none, .ext (.tmp 10) 2⟩,
      ⟨(some 6), none, .mov (.tmp 13)⟩,
      ⟨(some 7), none, .mov (.tmp 14)⟩,
      ⟨(some 8), none, .mov (.tmp 15)⟩] [1, 2, 3, 6, 7, 8])
  (.seq (.seq (.ops [⟨(some 16), none, .mov (.tmp 8)⟩,
      ⟨(some 17), none, .bin .neq (.tmp 16) (.const (.int .i64 0))⟩] [1, 2, 3, 6, 7, 8, 17])
  (.cond (.tmp 17)
    (.seq (.ops [⟨(some 18), none, .build [(.int .i64 0), (.slice none 0 0)] []⟩,
        ⟨(some 19), none, .build [(.int .i64 0), (.int .i64 0)] []⟩,
        ⟨(some 20), none, .mov (.tmp 8)⟩,
        ⟨none, none, .store 2 (.tmp 2) (.tmp 18)⟩,
        ⟨none, none, .store 2 (.tmp 3) (.tmp 19)⟩,
        ⟨(some 4), none, .mov (.const (.bool false))⟩,
        ⟨(some 5), none, .mov (.tmp 20)⟩] [2, 3, 4, 5])
    (.ret))
    (.skip)))
  (.seq (.seq (.ops [⟨(some 21), none, .mov (.tmp 6)⟩,
      ⟨(some 22), none, .len false (.tmp 21)⟩,
      ⟨(some 23), none, .bin .eql (.tmp 22) (.const (.int .i64 0))⟩,
      ⟨(some 24), none, .mov (.tmp 23)⟩,
      ⟨(some 25), (some (24, true)), .mov (.tmp 7)⟩,
      ⟨(some 26), (some (24, true)), .len false (.tmp 25)⟩,
      ⟨(some 27), (some (24, true)), .bin .eql (.tmp 26) (.const (.int .i64 0))⟩,
      ⟨(some 28), none, .pick (.tmp 24) (.tmp 27) (.const (.bool false))⟩] [1, 2, 3, 6, 7, 28])
  (.cond (.tmp 28)
    (.seq (.ops [⟨(some 29), none, .load (some 2) (.tmp 1)⟩,
        ⟨(some 30), none, .callF 5 [(.tmp 29)]⟩,
        ⟨(some 31), none, .build [(.int .i64 0), (.int .i64 0)] []⟩,
        ⟨none, none, .store 2 (.tmp 2) (.tmp 30)⟩,
        ⟨none, none, .store 2 (.tmp 3) (.tmp 31)⟩,
        ⟨(some 4), none, .mov (.const (.bool false))⟩,
        ⟨(some 5), none, .mov (.const (.int .i64 0))⟩] [2, 3, 4, 5])
    (.ret))
    (.skip)))
  (.seq (.seq (.ops [⟨(some 32), none, .mov (.tmp 6)⟩,
      ⟨(some 33), none, .len false (.tmp 32)⟩,
      ⟨(some 34), none, .bin .neq (.tmp 33) (.const (.int .i64 1))⟩,
      ⟨(some 35), none, .mov (.tmp 34)⟩,
      ⟨(some 36), (some (35, false)), .mov (.tmp 7)⟩,
      ⟨(some 37), (some (35, false)), .len false (.tmp 36)⟩,
      ⟨(some 38), (some (35, false)), .bin .neq (.tmp 37) (.const (.int .i64 1))⟩,
      ⟨(some 39), none, .pick (.tmp 35) (.const (.bool true)) (.tmp 38)⟩] [1, 2, 3, 6, 7, 39])
  (.cond (.tmp 39)
    (.seq (.ops [⟨(some 40), none, .build [(.int .i64 0), (.slice none 0 0)] []⟩,
        ⟨(some 41), none, .build [(.int .i64 0), (.int .i64 0)] []⟩,
        ⟨none, none, .store 2 (.tmp 2) (.tmp 40)⟩,
        ⟨none, none, .store 2 (.tmp 3) (.tmp 41)⟩,
        ⟨(some 4), none, .mov (.const (.bool false))⟩,
        ⟨(some 5), none, .mov (.const (.int .i64 30))⟩] [2, 3, 4, 5])
    (.ret))
    (.skip)))
  (.seq (.ops [⟨(some 42), none, .load (some 2) (.tmp 1)⟩,
      ⟨(some 43), none, .callF 5 [(.tmp 42)]⟩,
      ⟨(some 9), none, .alloc 24 [(1, (.int .i64 0)), (1, (.slice none 0 0))]⟩,
      ⟨none, none, .store 2 (.tmp 9) (.tmp 43)⟩] [1, 2, 3, 6, 7, 9])
  (.seq (.draw [⟨(some 44), none, .fldA 1 (.tmp 9)⟩,
      ⟨(some 45), none, .load none (.tmp 44)⟩,
      ⟨(some 46), none, .mov (.tmp 6)⟩,
      ⟨(some 47), none, .idxS 1 (.tmp 46) (.const (.int .i64 0))⟩,
      ⟨(some 48), none, .load none (.tmp 47)⟩,
      ⟨(some 49), none, .idxS 1 (.tmp 45) (.tmp 48)⟩,
      ⟨(some 50), none, .load none (.tmp 49)⟩,
      ⟨(some 51), none, .mov (.tmp 7)⟩,
      ⟨(some 52), none, .idxS 1 (.tmp 51) (.const (.int .i64 0))⟩,
      ⟨(some 53), none, .load none (.tmp 52)⟩,
      ⟨(some 54), none, .fldA 1 (.tmp 1)⟩,
      ⟨(some 55), none, .load none (.tmp 54)⟩,
      ⟨(some 56), none, .mov (.tmp 6)⟩,
      ⟨(some 57), none, .idxS 1 (.tmp 56) (.const (.int .i64 0))⟩,
      ⟨(some 58), none, .load none (.tmp 57)⟩,
      ⟨(some 59), none, .idxS 1 (.tmp 55) (.tmp 58)⟩,
      ⟨(some 60), none, .load none (.tmp 59)⟩,
      ⟨(some 61), none, .mov (.tmp 7)⟩,
      ⟨(some 62), none, .idxS 1 (.tmp 61) (.const (.int .i64 0))⟩,
      ⟨(some 63), none, .load none (.tmp 62)⟩,
      ⟨(some 64), none, .idxS 1 (.tmp 60) (.tmp 63)⟩,
      ⟨(some 65), none, .load none (.tmp 64)⟩,
      ⟨(some 66), none, .un .not (.tmp 65)⟩] [⟨(some 67), none, .idxS 1 (.tmp 50) (.tmp 53)⟩,
      ⟨none, none, .store 1 (.tmp 67) (.tmp 66)⟩] [[], [], [], [], [], [], [], [], [], [], [], [], [], [], [], [], [], [], [], [], [], [], []] [2, 3, 6, 7, 9])
  (.seq (.drawW [⟨⟨(some 68), none, .load (some 2) (.tmp 9)⟩, [], none⟩,
      ⟨⟨(some 69), none, .mov (.tmp 7)⟩, [0], none⟩,
      ⟨⟨(some 70), none, .idxS 1 (.tmp 69) (.const (.int .i64 0))⟩, [0], none⟩,
      ⟨⟨(some 71), none, .load none (.tmp 70)⟩, [0], none⟩,
      ⟨⟨(some 72), none, .mov (.tmp 6)⟩, [0, 1, 2, 3], none⟩,
      ⟨⟨(some 73), none, .idxS 1 (.tmp 72) (.const (.int .i64 0))⟩, [0, 1, 2, 3], none⟩,
      ⟨⟨(some 74), none, .load none (.tmp 73)⟩, [0, 1, 2, 3], none⟩,
      ⟨⟨(some 75), none, .build [(.int .i64 0), (.int .i64 0)] [(0, 1, (.tmp 71)), (1, 1, (.tmp 74))]⟩, [0], none⟩,
      ⟨⟨none, none, .store 2 (.tmp 2) (.tmp 68)⟩, [1, 2, 3, 4, 5, 6, 7], none⟩] [⟨none, none, .store 2 (.tmp 3) (.tmp 75)⟩,
      ⟨(some 4), none, .mov (.const (.bool true))⟩,
      ⟨(some 5), none, .mov (.const (.int .i64 0))⟩] [2, 3, 4, 5])
  (.ret)))))))),
  76, [(2, (some (some 2))), (3, (some (some 2))), (4, none), (5, none)], false⟩
/- raddle/peg.Text -/
def c14l0 : AC :=
  .seq (.ops [⟨(some 22), none, .bin .lss (.tmp 21) (.tmp 20)⟩] [4, 13, 14, 15, 19, 20, 21, 22])
            (.seq (.cond (.tmp 22)
              (.skip)
              (.exit 2))
            (.seq (.block 3
              (.seq (.ops [⟨(some 23), none, .idxS 1 (.tmp 19) (.tmp 21)⟩,
                  ⟨(some 24), none, .load none (.tmp 23)⟩,
                  ⟨(some 8), none, .mov (.tmp 24)⟩] [4, 8, 13, 14, 15, 19, 20, 21])
              (.seq (.ops [⟨(some 25), none, .mov (.tmp 8)⟩] [4, 13, 14, 15, 19, 20, 21, 25])
              (.cond (.tmp 25)
                (.ops [⟨(some 26), none, .callF 26 [(.tmp 4), (.const (.int .u8 111))]⟩] [4, 13, 14, 15, 19, 20, 21])
                (.ops [⟨(some 27), none, .callF 26 [(.tmp 4), (.const (.int .u8 46))]⟩] [4, 13, 14, 15, 19, 20, 21])))))
            (.ops [⟨(some 28), none, .bin .add (.tmp 21) (.const (.int .i64 1))⟩,
                ⟨(some 21), none, .mov (.tmp 28)⟩] [4, 13, 14, 15, 19, 20, 21])))
def c14l1 : AC :=
  .seq (.ops [⟨(some 16), none, .bin .lss (.tmp 15) (.tmp 14)⟩] [4, 13, 14, 15, 16])
      (.seq (.cond (.tmp 16)
        (.skip)
        (.exit 0))
      (.seq (.block 1
        (.seq (.ops [⟨(some 17), none, .idxS 1 (.tmp 13) (.tmp 15)⟩,
            ⟨(some 18), none, .load none (.tmp 17)⟩,
            ⟨(some 6), none, .mov (.tmp 18)⟩] [4, 6, 13, 14, 15])
        (.seq (.seq (.ops [⟨(some 19), none, .mov (.tmp 6)⟩,
            ⟨(some 20), none, .len false (.tmp 19)⟩,
            ⟨(some 21), none, .mov (.const (.int .i64 0))⟩] [4, 13, 14, 15, 19, 20, 21])
        (.block 2
          (.loop [4, 13, 14, 15, 19, 20, 21]
            c14l0)))
        (.ops [⟨(some 29), none, .callF 26 [(.tmp 4), (.const (.int .u8 10))]⟩] [4, 13, 14, 15]))))
      (.ops [⟨(some 30), none, .bin .add (.tmp 15) (.const (.int .i64 1))⟩,
          ⟨(some 15), none, .mov (.tmp 30)⟩] [4, 13, 14, 15])))
def c14 : AFun := ⟨
  .seq (.ops [⟨(some 1), none, .box 24 (.tmp 0)⟩,
      ⟨(some 2), none, .mov (.const (.string ⟨#[]⟩))⟩,
      ⟨(some 3), none, .mov (.const (.int .i64 0))⟩] [1])
  (.seq (.seq (.ops [⟨(some 9), none, .load (some 2) (.tmp 1)⟩,
      ⟨(some 10), none, .callF 19 [(.tmp 9)]⟩,
      ⟨(some 11), none, .un .not (.tmp 10)⟩] [1, 11])
  (.cond (.tmp 11)
    (.seq (.ops [⟨(some 2), none, .mov (.const (.string ⟨#[]⟩))⟩,
        ⟨(some 3), none, .mov (.const (.int .i64 8))⟩] [2, 3])
    (.ret))
    (.skip)))
  (.seq (.ops [⟨(some 4), none, .alloc 63 [(1, (.pointer none)), (1, (.slice none 0 0))]⟩] [1, 4])
  (.seq (.seq (.ops [⟨(some 12), none, .fldA 1 (.tmp 1)⟩,
      ⟨(some 13), none, .load none (.tmp 12)⟩,
      ⟨(some 14), none, .len false (.tmp 13)⟩,
      ⟨(some 15), none, .mov (.const (.int .i64 0))⟩] [4, 13, 14, 15])
  (.block 0
    (.loop [4, 13, 14, 15]
      c14l1)))
  (.seq (.ops [⟨(some 31), none, .callF 27 [(.tmp 4)]⟩,
      ⟨(some 2), none, .mov (.tmp 31)⟩,
      ⟨(some 3), none, .mov (.const (.int .i64 0))⟩] [2, 3])
  (.ret))))),
  32, [(2, none), (3, none)], true⟩
/- raddle/raddleref18.Text -/
def c15l0 : AC :=
  .seq (.seq (.ops [⟨(some 19), none, .mov (.tmp 6)⟩,
                ⟨(some 20), none, .fldA 0 (.tmp 1)⟩,
                ⟨(some 21), none, .load none (.tmp 20)⟩,
                ⟨(some 22), none, .bin .leq (.tmp 19) (.tmp 21)⟩] [1, 4, 5, 6, 22])
            (.cond (.tmp 22)
              (.skip)
              (.exit 2)))
            (.seq (.block 3
              (.seq (.ops [⟨(some 25), none, .fldA 1 (.tmp 1)⟩,
                  ⟨(some 26), none, .load none (.tmp 25)⟩,
                  ⟨(some 27), none, .mov (.tmp 5)⟩,
                  ⟨(some 28), none, .idxS 1 (.tmp 26) (.tmp 27)⟩,
                  ⟨(some 29), none, .load none (.tmp 28)⟩,
                  ⟨(some 30), none, .mov (.tmp 6)⟩,
                  ⟨(some 31), none, .idxS 1 (.tmp 29) (.tmp 30)⟩,
                  ⟨(some 32), none, .load none (.tmp 31)⟩] [1, 4, 5, 6, 32])
              (.cond (.tmp 32)
                (.ops [⟨(some 33), none, .mov (.tmp 4)⟩,
                    ⟨(some 34), none, .bin .add (.tmp 33) (.const (.string ⟨#[111]⟩))⟩,
                    ⟨(some 4), none, .mov (.tmp 34)⟩] [1, 4, 5, 6])
                (.ops [⟨(some 35), none, .mov (.tmp 4)⟩,
                    ⟨(some 36), none, .bin .add (.tmp 35) (.const (.string ⟨#[46]⟩))⟩,
                    ⟨(some 4), none, .mov (.tmp 36)⟩] [1, 4, 5, 6]))))
            (.ops [⟨(some 23), none, .mov (.tmp 6)⟩,
                ⟨(some 24), none, .bin .add (.tmp 23) (.const (.int .i64 1))⟩,
                ⟨(some 6), none, .mov (.tmp 24)⟩] [1, 4, 5, 6]))
def c15l1 : AC :=
  .seq (.seq (.ops [⟨(some 12), none, .mov (.tmp 5)⟩,
          ⟨(some 13), none, .fldA 1 (.tmp 1)⟩,
          ⟨(some 14), none, .load none (.tmp 13)⟩,
          ⟨(some 15), none, .len false (.tmp 14)⟩,
          ⟨(some 16), none, .bin .lss (.tmp 12) (.tmp 15)⟩] [1, 4, 5, 16])
      (.cond (.tmp 16)
        (.skip)
        (.exit 0)))
      (.seq (.block 1
        (.seq (.seq (.ops [⟨(some 6), none, .mov (.const (.int .i64 0))⟩] [1, 4, 5, 6])
        (.block 2
          (.loop [1, 4, 5, 6]
            c15l0)))
        (.ops [⟨(some 37), none, .mov (.tmp 4)⟩,
            ⟨(some 38), none, .bin .add (.tmp 37) (.const (.string ⟨#[10]⟩))⟩,
            ⟨(some 4), none, .mov (.tmp 38)⟩] [1, 4, 5])))
      (.ops [⟨(some 17), none, .mov (.tmp 5)⟩,
          ⟨(some 18), none, .bin .add (.tmp 17) (.const (.int .i64 1))⟩,
          ⟨(some 5), none, .mov (.tmp 18)⟩] [1, 4, 5]))
def c15 : AFun := ⟨
  .seq (.ops [⟨(some 1), none, .box 24 (.tmp 0)⟩,
      ⟨(some 2), none, .mov (.const (.string ⟨#[]⟩))⟩,
      ⟨(some 3), none, .mov (.const (.int .i64 0))⟩] [1])
  (.seq (.seq (.ops [⟨(some 7), none, .load (some 2) (.tmp 1)⟩,
      ⟨(some 8), none, .callF 23 [(.tmp 7)]⟩,
      ⟨(some 9), none, .bin .neq (.tmp 8) (.const (.int .i64 0))⟩] [1, 9])
  (.cond (.tmp 9)
    (.seq (.ops [⟨(some 10), none, .load (some 2) (.tmp 1)⟩,
        ⟨(some 11), none, .callF 23 [(.tmp 10)]⟩,
        ⟨(some 2), none, .mov (.const (.string ⟨#[]⟩))⟩,
        ⟨(some 3), none, .mov (.tmp 11)⟩] [2, 3])
    (.ret))
    (.skip)))
  (.seq (.ops [⟨(some 4), none, .mov (.const (.string ⟨#[]⟩))⟩] [1, 4])
  (.seq (.seq (.ops [⟨(some 5), none, .mov (.const (.int .i64 0))⟩] [1, 4, 5])
  (.block 0
    (.loop [1, 4, 5]
      c15l1)))
  (.seq (.ops [⟨(some 39), none, .mov (.tmp 4)⟩,
      ⟨(some 2), none, .mov (.tmp 39)⟩,
      ⟨(some 3), none, .mov (.const (.int .i64 0))⟩] [2, 3])
  (.ret))))),
  40, [(2, none), (3, none)], true⟩
/- raddle/raddleref18.Same -/
def c16l0 : AC :=
  .seq (.seq (.ops [⟨(some 41), none, .mov (.tmp 6)⟩,
                ⟨(some 42), none, .fldA 1 (.tmp 2)⟩,
                ⟨(some 43), none, .load none (.tmp 42)⟩,
                ⟨(some 44), none, .mov (.tmp 5)⟩,
                ⟨(some 45), none, .idxS 1 (.tmp 43) (.tmp 44)⟩,
                ⟨(some 46), none, .load none (.tmp 45)⟩,
                ⟨(some 47), none, .len false (.tmp 46)⟩,
                ⟨(some 48), none, .bin .lss (.tmp 41) (.tmp 47)⟩] [2, 3, 5, 6, 48])
            (.cond (.tmp 48)
              (.skip)
              (.exit 2)))
            (.seq (.block 3
              (.seq (.draw [⟨(some 51), none, .fldA 1 (.tmp 2)⟩,
                  ⟨(some 52), none, .load none (.tmp 51)⟩,
                  ⟨(some 53), none, .mov (.tmp 5)⟩,
                  ⟨(some 54), none, .idxS 1 (.tmp 52) (.tmp 53)⟩,
                  ⟨(some 55), none, .load none (.tmp 54)⟩,
                  ⟨(some 56), none, .mov (.tmp 6)⟩,
                  ⟨(some 57), none, .idxS 1 (.tmp 55) (.tmp 56)⟩,
                  ⟨(some 58), none, .load none (.tmp 57)⟩,
                  ⟨(some 59), none, .fldA 1 (.tmp 3)⟩,
                  ⟨(some 60), none, .load none (.tmp 59)⟩,
                  ⟨(some 61), none, .mov (.tmp 5)⟩,
                  ⟨(some 62), none, .idxS 1 (.tmp 60) (.tmp 61)⟩,
                  ⟨(some 63), none, .load none (.tmp 62)⟩,
                  ⟨(some 64), none, .mov (.tmp 6)⟩,
                  ⟨(some 65), none, .idxS 1 (.tmp 63) (.tmp 64)⟩,
                  ⟨(some 66), none, .load none (.tmp 65)⟩] [⟨(some 67), none, .eqB true (.tmp 58) (.tmp 66)⟩] [[], [], [], [], [], [], [], [], [], [], [], [], [], [], [], []] [2, 3, 5, 6, 67])
              (.cond (.tmp 67)
                (.seq (.ops [⟨(some 4), none, .mov (.const (.bool false))⟩] [4])
                (.ret))
                (.skip))))
            (.ops [⟨(some 49), none, .mov (.tmp 6)⟩,
                ⟨(some 50), none, .bin .add (.tmp 49) (.const (.int .i64 1))⟩,
                ⟨(some 6), none, .mov (.tmp 50)⟩] [2, 3, 5, 6]))
def c16l1 : AC :=
  .seq (.seq (.ops [⟨(some 21), none, .mov (.tmp 5)⟩,
          ⟨(some 22), none, .fldA 1 (.tmp 2)⟩,
          ⟨(some 23), none, .load none (.tmp 22)⟩,
          ⟨(some 24), none, .len false (.tmp 23)⟩,
          ⟨(some 25), none, .bin .lss (.tmp 21) (.tmp 24)⟩] [2, 3, 5, 25])
      (.cond (.tmp 25)
        (.skip)
        (.exit 0)))
      (.seq (.block 1
        (.seq (.seq (.draw [⟨(some 28), none, .fldA 1 (.tmp 2)⟩,
            ⟨(some 29), none, .load none (.tmp 28)⟩,
            ⟨(some 30), none, .mov (.tmp 5)⟩,
            ⟨(some 31), none, .idxS 1 (.tmp 29) (.tmp 30)⟩,
            ⟨(some 32), none, .load none (.tmp 31)⟩,
            ⟨(some 33), none, .len false (.tmp 32)⟩,
            ⟨(some 34), none, .fldA 1 (.tmp 3)⟩,
            ⟨(some 35), none, .load none (.tmp 34)⟩,
            ⟨(some 36), none, .mov (.tmp 5)⟩,
            ⟨(some 37), none, .idxS 1 (.tmp 35) (.tmp 36)⟩,
            ⟨(some 38), none, .load none (.tmp 37)⟩,
            ⟨(some 39), none, .len false (.tmp 38)⟩] [⟨(some 40), none, .bin .neq (.tmp 33) (.tmp 39)⟩] [[], [], [], [], [], [], [], [], [], [], [], []] [2, 3, 5, 40])
        (.cond (.tmp 40)
          (.seq (.ops [⟨(some 4), none, .mov (.const (.bool false))⟩] [4])
          (.ret))
          (.skip)))
        (.seq (.ops [⟨(some 6), none, .mov (.const (.int .i64 0))⟩] [2, 3, 5, 6])
        (.block 2
          (.loop [2, 3, 5, 6]
            c16l0)))))
      (.ops [⟨(some 26), none, .mov (.tmp 5)⟩,
          ⟨(some 27), none, .bin .add (.tmp 26) (.const (.int .i64 1))⟩,
          ⟨(some 5), none, .mov (.tmp 27)⟩] [2, 3, 5]))
def c16 : AFun := ⟨
  .seq (.ops [⟨(some 2), none, .box 24 (.tmp 0)⟩,
      ⟨(some 3), none, .box 24 (.tmp 1)⟩,
      ⟨(some 4), none, .mov (.const (.bool false))⟩] [2, 3])
  (.seq (.seq (.ops [⟨(some 7), none, .fldA 0 (.tmp 2)⟩,
      ⟨(some 8), none, .load none (.tmp 7)⟩,
      ⟨(some 9), none, .fldA 0 (.tmp 3)⟩,
      ⟨(some 10), none, .load none (.tmp 9)⟩,
      ⟨(some 11), none, .bin .neq (.tmp 8) (.tmp 10)⟩,
      ⟨(some 12), none, .mov (.tmp 11)⟩,
      ⟨(some 13), (some (12, false)), .fldA 1 (.tmp 2)⟩,
      ⟨(some 14), (some (12, false)), .load none (.tmp 13)⟩,
      ⟨(some 15), (some (12, false)), .len false (.tmp 14)⟩,
      ⟨(some 16), (some (12, false)), .fldA 1 (.tmp 3)⟩,
      ⟨(some 17), (some (12, false)), .load none (.tmp 16)⟩,
      ⟨(some 18), (some (12, false)), .len false (.tmp 17)⟩,
      ⟨(some 19), (some (12, false)), .bin .neq (.tmp 15) (.tmp 18)⟩,
      ⟨(some 20), none, .pick (.tmp 12) (.const (.bool true)) (.tmp 19)⟩] [2, 3, 20])
  (.cond (.tmp 20)
    (.seq (.ops [⟨(some 4), none, .mov (.const (.bool false))⟩] [4])
    (.ret))
    (.skip)))
  (.seq (.seq (.ops [⟨(some 5), none, .mov (.const (.int .i64 0))⟩] [2, 3, 5])
  (.block 0
    (.loop [2, 3, 5]
      c16l1)))
  (.seq (.ops [⟨(some 4), none, .mov (.const (.bool true))⟩] [4])
  (.ret)))),
  68, [(4, none)], true⟩
/- raddle/raddleref01.Zero -/
def c17 : AFun := ⟨
  .seq (.ops [⟨(some 4), none, .alloc 29 [(2, (.int .i64 0)), (1, (.slice none 0 0))]⟩] [0, 1, 4])
  (.seq (.ops [⟨(some 5), none, .mov (.tmp 0)⟩,
      ⟨(some 6), none, .mov (.tmp 1)⟩,
      ⟨(some 7), none, .mov (.tmp 0)⟩,
      ⟨(some 8), none, .mov (.tmp 1)⟩,
      ⟨(some 9), none, .bin .mul (.tmp 7) (.tmp 8)⟩,
      ⟨(some 10), none, .mkSlice 4 1 1 [(.bool false)] (.tmp 9) (.tmp 9)⟩,
      ⟨(some 11), none, .build [(.int .i64 0), (.int .i64 0), (.slice none 0 0)] [(0, 1, (.tmp 5)), (1, 1, (.tmp 6)), (2, 1, (.tmp 10))]⟩,
      ⟨none, none, .store 3 (.tmp 4) (.tmp 11)⟩] [4])
  (.ret)),
  12, [(4, (some (some 3)))], false⟩
/- raddle/raddleref01.Set -/
def c18 : AFun := ⟨
  .seq (.ops [⟨(some 4), none, .box 29 (.tmp 0)⟩] [1, 2, 3, 4])
  (.ops [⟨(some 8), none, .fldA 2 (.tmp 4)⟩,
      ⟨(some 9), none, .load none (.tmp 8)⟩,
      ⟨(some 10), none, .mov (.tmp 2)⟩,
      ⟨(some 11), none, .fldA 0 (.tmp 4)⟩,
      ⟨(some 12), none, .load none (.tmp 11)⟩,
      ⟨(some 13), none, .bin .mul (.tmp 10) (.tmp 12)⟩,
      ⟨(some 14), none, .mov (.tmp 1)⟩,
      ⟨(some 15), none, .bin .add (.tmp 13) (.tmp 14)⟩,
      ⟨(some 16), none, .mov (.tmp 3)⟩,
      ⟨(some 17), none, .idxS 1 (.tmp 9) (.tmp 15)⟩,
      ⟨none, none, .store 1 (.tmp 17) (.tmp 16)⟩] []),
  18, [], false⟩
/- raddle/peg.valid -/
def c19 : AFun := ⟨
  .seq (.ops [⟨(some 1), none, .box 24 (.tmp 0)⟩,
      ⟨(some 2), none, .mov (.const (.bool false))⟩] [1])
  (.seq (.seq (.ops [⟨(some 3), none, .fldA 0 (.tmp 1)⟩,
      ⟨(some 4), none, .load none (.tmp 3)⟩,
      ⟨(some 5), none, .bin .lss (.tmp 4) (.const (.int .i64 1))⟩,
      ⟨(some 6), none, .mov (.tmp 5)⟩,
      ⟨(some 7), (some (6, false)), .fldA 0 (.tmp 1)⟩,
      ⟨(some 8), (some (6, false)), .load none (.tmp 7)⟩,
      ⟨(some 9), (some (6, false)), .bin .gtr (.tmp 8) (.const (.int .i64 40))⟩,
      ⟨(some 10), none, .pick (.tmp 6) (.const (.bool true)) (.tmp 9)⟩,
      ⟨(some 11), none, .mov (.tmp 10)⟩,
      ⟨(some 12), (some (11, false)), .fldA 1 (.tmp 1)⟩,
      ⟨(some 13), (some (11, false)), .load none (.tmp 12)⟩,
      ⟨(some 14), (some (11, false)), .len false (.tmp 13)⟩,
      ⟨(some 15), (some (11, false)), .bin .lss (.tmp 14) (.const (.int .i64 2))⟩,
      ⟨(some 16), none, .pick (.tmp 11) (.const (.bool true)) (.tmp 15)⟩,
      ⟨(some 17), none, .mov (.tmp 16)⟩,
      ⟨(some 18), (some (17, false)), .fldA 1 (.tmp 1)⟩,
      ⟨(some 19), (some (17, false)), .load none (.tmp 18)⟩,
      ⟨(some 20), (some (17, false)), .len false (.tmp 19)⟩,
      ⟨(some 21), (some (17, false)), .bin .gtr (.tmp 20) (.const (.int .i64 65))⟩,
      ⟨(some 22), none, .pick (.tmp 17) (.const (.bool true)) (.tmp 21)⟩] [1, 22])
  (.cond (.tmp 22)
    (.seq (.ops [⟨(some 2), none, .mov (.const (.bool false))⟩] [2])
    (.ret))
    (.skip)))
  (.seq (.ops [⟨(some 23), none, .fldA 1 (.tmp 1)⟩,
      ⟨(some 24), none, .load none (.tmp 23)⟩,
      ⟨(some 25), none, .mkFn 29 [] [(.tmp 1)]⟩,
      ⟨(some 26), none, .callF 28 [(.tmp 24), (.tmp 25)]⟩,
      ⟨(some 27), none, .un .not (.tmp 26)⟩,
      ⟨(some 2), none, .mov (.tmp 27)⟩] [2])
  (.ret))),
  28, [(2, none)], true⟩
/- raddle/peg.odd -/
def c20l0 : AC :=
  .seq (.ops [⟨(some 9), none, .bin .lss (.tmp 8) (.tmp 7)⟩] [1, 5, 7, 8, 9])
      (.seq (.cond (.tmp 9)
        (.skip)
        (.exit 0))
      (.seq (.block 1
        (.seq (.ops [⟨(some 10), none, .mov (.tmp 8)⟩,
            ⟨(some 6), none, .mov (.tmp 10)⟩] [1, 5, 6, 7, 8])
        (.ops [⟨(some 11), none, .mov (.tmp 5)⟩,
            ⟨(some 12), none, .mov (.tmp 1)⟩,
            ⟨(some 13), none, .mov (.tmp 6)⟩,
            ⟨(some 14), none, .callV (.tmp 12) [(.tmp 13)]⟩,
            ⟨(some 15), none, .eqB true (.tmp 11) (.tmp 14)⟩,
            ⟨(some 5), none, .mov (.tmp 15)⟩] [1, 5, 7, 8])))
      (.ops [⟨(some 16), none, .bin .add (.tmp 8) (.const (.int .i64 1))⟩,
          ⟨(some 8), none, .mov (.tmp 16)⟩] [1, 5, 7, 8])))
def c20 : AFun := ⟨
  .seq (.ops [⟨(some 4), none, .mov (.const (.bool false))⟩] [0, 1])
  (.seq (.ops [⟨(some 5), none, .mov (.const (.bool false))⟩] [0, 1, 5])
  (.seq (.seq (.ops [⟨(some 7), none, .mov (.tmp 0)⟩,
      ⟨(some 8), none, .mov (.const (.int .i64 0))⟩] [1, 5, 7, 8])
  (.block 0
    (.loop [1, 5, 7, 8]
      c20l0)))
  (.seq (.ops [⟨(some 17), none, .mov (.tmp 5)⟩,
      ⟨(some 4), none, .mov (.tmp 17)⟩] [4])
  (.ret)))),
  18, [(4, none)], true⟩
/- raddle/peg.Wrong$1 -/
def c21 : AFun := ⟨
  .seq (.ops [⟨(some 3), none, .mov (.const (.bool false))⟩] [0, 1])
  (.seq (.ops [⟨(some 4), none, .load none (.tmp 1)⟩,
      ⟨(some 5), none, .mov (.tmp 0)⟩,
      ⟨(some 6), none, .idxS 1 (.tmp 4) (.tmp 5)⟩,
      ⟨(some 7), none, .load none (.tmp 6)⟩,
      ⟨(some 3), none, .mov (.tmp 7)⟩] [3])
  (.ret)),
  8, [(3, none)], true⟩
/- raddle/peg.Wrong$2 -/
def c22 : AFun := ⟨
  .seq (.ops [⟨(some 4), none, .mov (.const (.bool false))⟩] [0, 1, 2])
  (.seq (.draw [⟨(some 5), none, .fldA 1 (.tmp 1)⟩,
      ⟨(some 6), none, .load none (.tmp 5)⟩,
      ⟨(some 7), none, .mov (.tmp 0)⟩,
      ⟨(some 8), none, .idxS 1 (.tmp 6) (.tmp 7)⟩,
      ⟨(some 9), none, .load none (.tmp 8)⟩,
      ⟨(some 10), none, .load none (.tmp 2)⟩] [⟨(some 11), none, .idxS 1 (.tmp 9) (.tmp 10)⟩,
      ⟨(some 12), none, .load none (.tmp 11)⟩,
      ⟨(some 4), none, .mov (.tmp 12)⟩] [[], [], [], [], [], []] [4])
  (.ret)),
  13, [(4, none)], true⟩
/- raddle/raddleref18.Chain -/
def c23l0 : AC :=
  .seq (.seq (.ops [⟨(some 24), none, .mov (.tmp 3)⟩,
          ⟨(some 25), none, .fldA 1 (.tmp 1)⟩,
          ⟨(some 26), none, .load none (.tmp 25)⟩,
          ⟨(some 27), none, .len false (.tmp 26)⟩,
          ⟨(some 28), none, .bin .lss (.tmp 24) (.tmp 27)⟩] [1, 3, 28])
      (.cond (.tmp 28)
        (.skip)
        (.exit 0)))
      (.seq (.block 1
        (.seq (.draw [⟨(some 31), none, .fldA 1 (.tmp 1)⟩,
            ⟨(some 32), none, .load none (.tmp 31)⟩,
            ⟨(some 33), none, .mov (.tmp 3)⟩,
            ⟨(some 34), none, .idxS 1 (.tmp 32) (.tmp 33)⟩,
            ⟨(some 35), none, .load none (.tmp 34)⟩,
            ⟨(some 36), none, .len false (.tmp 35)⟩,
            ⟨(some 37), none, .fldA 0 (.tmp 1)⟩,
            ⟨(some 38), none, .load none (.tmp 37)⟩,
            ⟨(some 39), none, .bin .add (.tmp 38) (.const (.int .i64 1))⟩] [⟨(some 40), none, .bin .neq (.tmp 36) (.tmp 39)⟩] [[], [], [], [], [], [], [], [], []] [1, 3, 40])
        (.cond (.tmp 40)
          (.seq (.ops [⟨(some 2), none, .mov (.const (.int .i64 8))⟩] [2])
          (.ret))
          (.skip))))
      (.ops [⟨(some 29), none, .mov (.tmp 3)⟩,
          ⟨(some 30), none, .bin .add (.tmp 29) (.const (.int .i64 1))⟩,
          ⟨(some 3), none, .mov (.tmp 30)⟩] [1, 3]))
def c23 : AFun := ⟨
  .seq (.ops [⟨(some 1), none, .box 24 (.tmp 0)⟩,
      ⟨(some 2), none, .mov (.const (.int .i64 0))⟩] [1])
  (.seq (.seq (.ops [⟨(some 4), none, .fldA 0 (.tmp 1)⟩,
      ⟨(some 5), none, .load none (.tmp 4)⟩,
      ⟨(some 6), none, .bin .lss (.tmp 5) (.const (.int .i64 1))⟩,
      ⟨(some 7), none, .mov (.tmp 6)⟩,
      ⟨(some 8), (some (7, false)), .fldA 0 (.tmp 1)⟩,
      ⟨(some 9), (some (7, false)), .load none (.tmp 8)⟩,
      ⟨(some 10), (some (7, false)), .bin .gtr (.tmp 9) (.const (.int .i64 40))⟩,
      ⟨(some 11), none, .pick (.tmp 7) (.const (.bool true)) (.tmp 10)⟩,
      ⟨(some 12), none, .mov (.tmp 11)⟩,
      ⟨(some 13), (some (12, false)), .fldA 1 (.tmp 1)⟩,
      ⟨(some 14), (some (12, false)), .load none (.tmp 13)⟩,
      ⟨(some 15), (some (12, false)), .len false (.tmp 14)⟩,
      ⟨(some 16), (some (12, false)), .bin .lss (.tmp 15) (.const (.int .i64 2))⟩,
      ⟨(some 17), none, .pick (.tmp 12) (.const (.bool true)) (.tmp 16)⟩,
      ⟨(some 18), none, .mov (.tmp 17)⟩,
      ⟨(some 19), (some (18, false)), .fldA 1 (.tmp 1)⟩,
      ⟨(some 20), (some (18, false)), .load none (.tmp 19)⟩,
      ⟨(some 21), (some (18, false)), .len false (.tmp 20)⟩,
      ⟨(some 22), (some (18, false)), .bin .gtr (.tmp 21) (.const (.int .i64 65))⟩,
      ⟨(some 23), none, .pick (.tmp 18) (.const (.bool true)) (.tmp 22)⟩] [1, 23])
  (.cond (.tmp 23)
    (.seq (.ops [⟨(some 2), none, .mov (.const (.int .i64 8))⟩] [2])
    (.ret))
    (.skip)))
  (.seq (.seq (.ops [⟨(some 3), none, .mov (.const (.int .i64 0))⟩] [1, 3])
  (.block 0
    (.loop [1, 3]
      c23l0)))
  (.seq (.ops [⟨(some 2), none, .mov (.const (.int .i64 0))⟩] [2])
  (.ret)))),
  41, [(2, none)], true⟩
/- raddle/raddleref18.Pegs -/
def c24l0 : AC :=
  .seq (.seq (.ops [⟨(some 5), none, .mov (.tmp 4)⟩,
          ⟨(some 6), none, .mov (.tmp 0)⟩,
          ⟨(some 7), none, .len false (.tmp 6)⟩,
          ⟨(some 8), none, .bin .lss (.tmp 5) (.tmp 7)⟩] [0, 3, 4, 8])
      (.cond (.tmp 8)
        (.skip)
        (.exit 0)))
      (.seq (.block 1
        (.seq (.ops [⟨(some 11), none, .mov (.tmp 0)⟩,
            ⟨(some 12), none, .mov (.tmp 4)⟩,
            ⟨(some 13), none, .idxS 1 (.tmp 11) (.tmp 12)⟩,
            ⟨(some 14), none, .load none (.tmp 13)⟩] [0, 3, 4, 14])
        (.cond (.tmp 14)
          (.ops [⟨(some 15), none, .mov (.tmp 3)⟩,
              ⟨(some 16), none, .bin .add (.tmp 15) (.const (.int .i64 1))⟩,
              ⟨(some 3), none, .mov (.tmp 16)⟩] [0, 3, 4])
          (.skip))))
      (.ops [⟨(some 9), none, .mov (.tmp 4)⟩,
          ⟨(some 10), none, .bin .add (.tmp 9) (.const (.int .i64 1))⟩,
          ⟨(some 4), none, .mov (.tmp 10)⟩] [0, 3, 4]))
def c24 : AFun := ⟨
  .seq (.ops [⟨(some 2), none, .mov (.const (.int .i64 0))⟩] [0])
  (.seq (.ops [⟨(some 3), none, .mov (.const (.int .i64 0))⟩] [0, 3])
  (.seq (.seq (.ops [⟨(some 4), none, .mov (.const (.int .i64 0))⟩] [0, 3, 4])
  (.block 0
    (.loop [0, 3, 4]
      c24l0)))
  (.seq (.ops [⟨(some 17), none, .mov (.tmp 3)⟩,
      ⟨(some 2), none, .mov (.tmp 17)⟩] [2])
  (.ret)))),
  18, [(2, none)], true⟩
/- raddle/raddleref18.Column -/
def c25l0 : AC :=
  .seq (.seq (.ops [⟨(some 7), none, .mov (.tmp 6)⟩,
          ⟨(some 8), none, .mov (.tmp 0)⟩,
          ⟨(some 9), none, .len false (.tmp 8)⟩,
          ⟨(some 10), none, .bin .lss (.tmp 7) (.tmp 9)⟩] [0, 1, 5, 6, 10])
      (.cond (.tmp 10)
        (.skip)
        (.exit 0)))
      (.seq (.block 1
        (.ops [⟨(some 13), none, .mov (.tmp 5)⟩,
            ⟨(some 14), none, .mov (.tmp 0)⟩,
            ⟨(some 15), none, .mov (.tmp 6)⟩,
            ⟨(some 16), none, .idxS 1 (.tmp 14) (.tmp 15)⟩,
            ⟨(some 17), none, .load none (.tmp 16)⟩,
            ⟨(some 18), none, .mov (.tmp 1)⟩,
            ⟨(some 19), none, .idxS 1 (.tmp 17) (.tmp 18)⟩,
            ⟨(some 20), none, .load none (.tmp 19)⟩,
            ⟨(some 21), none, .mkRow 4 1 1 [(.bool false)] [(0, 1, (.tmp 20))]⟩,
            ⟨(some 22), none, .app 4 1 1 (.tmp 13) (.tmp 21)⟩,
            ⟨(some 5), none, .mov (.tmp 22)⟩] [0, 1, 5, 6]))
      (.ops [⟨(some 11), none, .mov (.tmp 6)⟩,
          ⟨(some 12), none, .bin .add (.tmp 11) (.const (.int .i64 1))⟩,
          ⟨(some 6), none, .mov (.tmp 12)⟩] [0, 1, 5, 6]))
def c25 : AFun := ⟨
  .seq (.ops [⟨(some 4), none, .mov (.const (.slice none 0 0))⟩] [0, 1])
  (.seq (.ops [⟨(some 5), none, .mov (.const (.slice none 0 0))⟩] [0, 1, 5])
  (.seq (.seq (.ops [⟨(some 6), none, .mov (.const (.int .i64 0))⟩] [0, 1, 5, 6])
  (.block 0
    (.loop [0, 1, 5, 6]
      c25l0)))
  (.seq (.ops [⟨(some 23), none, .mov (.tmp 5)⟩,
      ⟨(some 4), none, .mov (.tmp 23)⟩] [4])
  (.ret)))),
  24, [(4, none)], true⟩
/- (*strings.Builder).WriteByte -/
def c26 : AFun := ⟨
  .seq (.ops [⟨(some 4), none, .mov (.const .nilIface)⟩] [0, 1])
  (.seq (.ops [⟨(some 5), none, .mov (.tmp 0)⟩,
      ⟨(some 6), none, .callF 30 [(.tmp 5)]⟩] [0, 1])
  (.seq (.ops [⟨(some 7), none, .mov (.tmp 0)⟩,
      ⟨(some 8), none, .mov (.tmp 0)⟩,
      ⟨(some 9), none, .nilChk (.tmp 8)⟩,
      ⟨(some 10), none, .fldA 1 (.tmp 9)⟩,
      ⟨(some 11), none, .load none (.tmp 10)⟩,
      ⟨(some 12), none, .mov (.tmp 1)⟩,
      ⟨(some 13), none, .mkRow 5 1 1 [(.int .u8 0)] [(0, 1, (.tmp 12))]⟩,
      ⟨(some 14), none, .app 5 1 1 (.tmp 11) (.tmp 13)⟩,
      ⟨(some 15), none, .nilChk (.tmp 7)⟩,
      ⟨(some 16), none, .fldA 1 (.tmp 15)⟩,
      ⟨none, none, .store 1 (.tmp 16) (.tmp 14)⟩] [])
  (.seq (.ops [⟨(some 4), none, .mov (.const .nilIface)⟩] [4])
  (.ret)))),
  17, [(4, none)], false⟩
/- (*strings.Builder).String -/
def c27 : AFun := ⟨
  .seq (.ops [⟨(some 2), none, .mov (.const (.string ⟨#[]⟩))⟩] [0])
  (.seq (.draw [⟨(some 3), none, .mov (.tmp 0)⟩,
      ⟨(some 4), none, .nilChk (.tmp 3)⟩,
      ⟨(some 5), none, .fldA 1 (.tmp 4)⟩,
      ⟨(some 6), none, .load none (.tmp 5)⟩,
      ⟨(some 7), none, .sdata (.tmp 6)⟩,
      ⟨(some 8), none, .mov (.tmp 0)⟩,
      ⟨(some 9), none, .nilChk (.tmp 8)⟩,
      ⟨(some 10), none, .fldA 1 (.tmp 9)⟩,
      ⟨(some 11), none, .load none (.tmp 10)⟩,
      ⟨(some 12), none, .len false (.tmp 11)⟩] [⟨(some 13), none, .ustr 5 (.tmp 7) (.tmp 12)⟩,
      ⟨(some 2), none, .mov (.tmp 13)⟩] [[], [], [], [], [], [], [], [], [], []] [2])
  (.ret)),
  14, [(2, none)], false⟩
/- slices.ContainsFunc[[][]bool,[]bool] -/
def c28 : AFun := ⟨
  .seq (.ops [⟨(some 4), none, .mov (.const (.bool false))⟩] [0, 1])
  (.seq (.ops [⟨(some 5), none, .mov (.tmp 0)⟩,
      ⟨(some 6), none, .mov (.tmp 1)⟩,
      ⟨(some 7), none, .callF 31 [(.tmp 5), (.tmp 6)]⟩,
      ⟨(some 8), none, .bin .geq (.tmp 7) (.const (.int .i64 0))⟩,
      ⟨(some 4), none, .mov (.tmp 8)⟩] [4])
  (.ret)),
  9, [(4, none)], true⟩
/- raddle/peg.valid$1 -/
def c29 : AFun := ⟨
  .seq (.ops [⟨(some 3), none, .mov (.const (.bool false))⟩] [0, 1])
  (.seq (.ops [⟨(some 4), none, .mov (.tmp 0)⟩,
      ⟨(some 5), none, .len false (.tmp 4)⟩,
      ⟨(some 6), none, .fldA 0 (.tmp 1)⟩,
      ⟨(some 7), none, .load none (.tmp 6)⟩,
      ⟨(some 8), none, .bin .add (.tmp 7) (.const (.int .i64 1))⟩,
      ⟨(some 9), none, .bin .neq (.tmp 5) (.tmp 8)⟩,
      ⟨(some 3), none, .mov (.tmp 9)⟩] [3])
  (.ret)),
  10, [(3, none)], true⟩
/- (*strings.Builder).copyCheck (1 operations that the interpreter lacks) -/
def c30 : AFun := ⟨
  .seq (.ops [⟨(some 2), none, .mov (.tmp 0)⟩,
      ⟨(some 3), none, .nilChk (.tmp 2)⟩,
      ⟨(some 4), none, .fldA 0 (.tmp 3)⟩,
      ⟨(some 5), none, .load none (.tmp 4)⟩,
      ⟨(some 6), none, .eqNil 0 false (.tmp 5) (.const (.pointer none))⟩] [0, 6])
  (.cond (.tmp 6)
    (.ops [⟨(some 7), none, .mov (.tmp 0)⟩,
        ⟨(some 8), none, .mov (.tmp 0)⟩,
        ⟨(some 9), none, .toUns (.tmp 8)⟩,
        ⟨(some 10), none, .callF 32 [(.tmp 9)]⟩,
        ⟨(some 11), none, .fromUns 63 2 (.tmp 10)⟩,
        ⟨(some 12), none, .nilChk (.tmp 7)⟩,
        ⟨(some 13), none, .fldA 0 (.tmp 12)⟩,
        ⟨none, none, .store 1 (.tmp 13) (.tmp 11)⟩] [])
    (.seq (.ops [⟨(some 14), none, .mov (.tmp 0)⟩,
        ⟨(some 15), none, .nilChk (.tmp 14)⟩,
        ⟨(some 16), none, .fldA 0 (.tmp 15)⟩,
        ⟨(some 17), none, .load none (.tmp 16)⟩,
        ⟨(some 18), none, .mov (.tmp 0)⟩,
        ⟨(some 19), none, .eqPtr true (.tmp 17) (.tmp 18)⟩] [19])
    (.cond (.tmp 19)
      (.bad)
      (.skip)))),
  20, [], false⟩
/- slices.IndexFunc[[][]bool,[]bool] -/
def c31l0 : AC :=
  .seq (.ops [⟨(some 9), none, .bin .lss (.tmp 8) (.tmp 7)⟩] [0, 1, 7, 8, 9])
      (.seq (.cond (.tmp 9)
        (.skip)
        (.exit 0))
      (.seq (.block 1
        (.seq (.ops [⟨(some 10), none, .mov (.tmp 8)⟩,
            ⟨(some 5), none, .mov (.tmp 10)⟩] [0, 1, 5, 7, 8])
        (.seq (.ops [⟨(some 11), none, .mov (.tmp 1)⟩,
            ⟨(some 12), none, .mov (.tmp 0)⟩,
            ⟨(some 13), none, .mov (.tmp 5)⟩,
            ⟨(some 14), none, .idxS 1 (.tmp 12) (.tmp 13)⟩,
            ⟨(some 15), none, .load none (.tmp 14)⟩,
            ⟨(some 16), none, .callV (.tmp 11) [(.tmp 15)]⟩] [0, 1, 5, 7, 8, 16])
        (.cond (.tmp 16)
          (.seq (.ops [⟨(some 17), none, .mov (.tmp 5)⟩,
              ⟨(some 4), none, .mov (.tmp 17)⟩] [4])
          (.ret))
          (.skip)))))
      (.ops [⟨(some 18), none, .bin .add (.tmp 8) (.const (.int .i64 1))⟩,
          ⟨(some 8), none, .mov (.tmp 18)⟩] [0, 1, 7, 8])))
def c31 : AFun := ⟨
  .seq (.ops [⟨(some 4), none, .mov (.const (.int .i64 0))⟩] [0, 1])
  (.seq (.seq (.ops [⟨(some 6), none, .mov (.tmp 0)⟩,
      ⟨(some 7), none, .len false (.tmp 6)⟩,
      ⟨(some 8), none, .mov (.const (.int .i64 0))⟩] [0, 1, 7, 8])
  (.block 0
    (.loop [0, 1, 7, 8]
      c31l0)))
  (.seq (.ops [⟨(some 4), none, .mov (.const (.int .i64 (-1)))⟩] [4])
  (.ret))),
  19, [(4, none)], true⟩
theorem ok3 : FunOK Try.prog 3 c3 := ⟨⟨Try.f3, _, c3.code, Try.func3, rfl, by kernel_rfl, rfl, by kernel_rfl, by kernel_rfl⟩⟩
theorem ok4 : FunOK Try.prog 4 c4 := ⟨⟨Try.f4, _, c4.code, Try.func4, rfl, by kernel_rfl, rfl, by kernel_rfl, by kernel_rfl⟩⟩
theorem ok5 : FunOK Try.prog 5 c5 := ⟨⟨Try.f5, _, c5.code, Try.func5, rfl, by kernel_rfl, rfl, by kernel_rfl, by kernel_rfl⟩⟩
theorem ok6 : FunOK Try.prog 6 c6 := ⟨⟨Try.f6, _, c6.code, Try.func6, rfl, by kernel_rfl, rfl, by kernel_rfl, by kernel_rfl⟩⟩
theorem ok7 : FunOK Try.prog 7 c7 := ⟨⟨Try.f7, _, c7.code, Try.func7, rfl, by kernel_rfl, rfl, by kernel_rfl, by kernel_rfl⟩⟩
theorem ok8 : FunOK Try.prog 8 c8 := ⟨⟨Try.f8, _, c8.code, Try.func8, rfl, by kernel_rfl, rfl, by kernel_rfl, by kernel_rfl⟩⟩
theorem ok9 : FunOK Try.prog 9 c9 := ⟨⟨Try.f9, _, c9.code, Try.func9, rfl, by kernel_rfl, rfl, by kernel_rfl, by kernel_rfl⟩⟩
theorem ok10 : FunOK Try.prog 10 c10 := ⟨⟨Try.f10, _, c10.code, Try.func10, rfl, by kernel_rfl, rfl, by kernel_rfl, by kernel_rfl⟩⟩
theorem ok11 : FunOK Try.prog 11 c11 := ⟨⟨Try.f11, _, c11.code, Try.func11, rfl, by kernel_rfl, rfl, by kernel_rfl, by kernel_rfl⟩⟩
theorem ok12 : FunOK Try.prog 12 c12 := ⟨⟨Try.f12, _, c12.code, Try.func12, rfl, by kernel_rfl, rfl, by kernel_rfl, by kernel_rfl⟩⟩
theorem ok13 : FunOK Try.prog 13 c13 := ⟨⟨Try.f13, _, c13.code, Try.func13, rfl, by kernel_rfl, rfl, by kernel_rfl, by kernel_rfl⟩⟩
theorem ok14 : FunOK Try.prog 14 c14 := ⟨⟨Try.f14, _, c14.code, Try.func14, rfl, by kernel_rfl, rfl, by kernel_rfl, by kernel_rfl⟩⟩
theorem ok15 : FunOK Try.prog 15 c15 := ⟨⟨Try.f15, _, c15.code, Try.func15, rfl, by kernel_rfl, rfl, by kernel_rfl, by kernel_rfl⟩⟩
theorem ok16 : FunOK Try.prog 16 c16 := ⟨⟨Try.f16, _, c16.code, Try.func16, rfl, by kernel_rfl, rfl, by kernel_rfl, by kernel_rfl⟩⟩
theorem ok17 : FunOK Try.prog 17 c17 := ⟨⟨Try.f17, _, c17.code, Try.func17, rfl, by kernel_rfl, rfl, by kernel_rfl, by kernel_rfl⟩⟩
theorem ok18 : FunOK Try.prog 18 c18 := ⟨⟨Try.f18, _, c18.code, Try.func18, rfl, by kernel_rfl, rfl, by kernel_rfl, by kernel_rfl⟩⟩
theorem ok19 : FunOK Try.prog 19 c19 := ⟨⟨Try.f19, _, c19.code, Try.func19, rfl, by kernel_rfl, rfl, by kernel_rfl, by kernel_rfl⟩⟩
theorem ok20 : FunOK Try.prog 20 c20 := ⟨⟨Try.f20, _, c20.code, Try.func20, rfl, by kernel_rfl, rfl, by kernel_rfl, by kernel_rfl⟩⟩
theorem ok21 : FunOK Try.prog 21 c21 := ⟨⟨Try.f21, _, c21.code, Try.func21, rfl, by kernel_rfl, rfl, by kernel_rfl, by kernel_rfl⟩⟩
theorem ok22 : FunOK Try.prog 22 c22 := ⟨⟨Try.f22, _, c22.code, Try.func22, rfl, by kernel_rfl, rfl, by kernel_rfl, by kernel_rfl⟩⟩
theorem ok23 : FunOK Try.prog 23 c23 := ⟨⟨Try.f23, _, c23.code, Try.func23, rfl, by kernel_rfl, rfl, by kernel_rfl, by kernel_rfl⟩⟩
theorem ok24 : FunOK Try.prog 24 c24 := ⟨⟨Try.f24, _, c24.code, Try.func24, rfl, by kernel_rfl, rfl, by kernel_rfl, by kernel_rfl⟩⟩
theorem ok25 : FunOK Try.prog 25 c25 := ⟨⟨Try.f25, _, c25.code, Try.func25, rfl, by kernel_rfl, rfl, by kernel_rfl, by kernel_rfl⟩⟩
theorem ok26 : FunOK Try.prog 26 c26 := ⟨⟨Try.f26, _, c26.code, Try.func26, rfl, by kernel_rfl, rfl, by kernel_rfl, by kernel_rfl⟩⟩
theorem ok27 : FunOK Try.prog 27 c27 := ⟨⟨Try.f27, _, c27.code, Try.func27, rfl, by kernel_rfl, rfl, by kernel_rfl, by kernel_rfl⟩⟩
theorem ok28 : FunOK Try.prog 28 c28 := ⟨⟨Try.f28, _, c28.code, Try.func28, rfl, by kernel_rfl, rfl, by kernel_rfl, by kernel_rfl⟩⟩
theorem ok29 : FunOK Try.prog 29 c29 := ⟨⟨Try.f29, _, c29.code, Try.func29, rfl, by kernel_rfl, rfl, by kernel_rfl, by kernel_rfl⟩⟩
theorem ok30 : FunOK Try.prog 30 c30 := ⟨⟨Try.f30, _, c30.code, Try.func30, rfl, by kernel_rfl, rfl, by kernel_rfl, by kernel_rfl⟩⟩
theorem ok31 : FunOK Try.prog 31 c31 := ⟨⟨Try.f31, _, c31.code, Try.func31, rfl, by kernel_rfl, rfl, by kernel_rfl, by kernel_rfl⟩⟩
def fns : FuncId → Option AFun
  | 3 => some c3
  | 4 => some c4
  | 5 => some c5
  | 6 => some c6
  | 7 => some c7
  | 8 => some c8
  | 9 => some c9
  | 10 => some c10
  | 11 => some c11
  | 12 => some c12
  | 13 => some c13
  | 14 => some c14
  | 15 => some c15
  | 16 => some c16
  | 17 => some c17
  | 18 => some c18
  | 19 => some c19
  | 20 => some c20
  | 21 => some c21
  | 22 => some c22
  | 23 => some c23
  | 24 => some c24
  | 25 => some c25
  | 26 => some c26
  | 27 => some c27
  | 28 => some c28
  | 29 => some c29
  | 30 => some c30
  | 31 => some c31
  | _ => none
theorem fns_ok : FunsOK Try.prog fns := by
  intro f af h
  unfold fns at h
  split at h
  · cases h; exact ok3
  · cases h; exact ok4
  · cases h; exact ok5
  · cases h; exact ok6
  · cases h; exact ok7
  · cases h; exact ok8
  · cases h; exact ok9
  · cases h; exact ok10
  · cases h; exact ok11
  · cases h; exact ok12
  · cases h; exact ok13
  · cases h; exact ok14
  · cases h; exact ok15
  · cases h; exact ok16
  · cases h; exact ok17
  · cases h; exact ok18
  · cases h; exact ok19
  · cases h; exact ok20
  · cases h; exact ok21
  · cases h; exact ok22
  · cases h; exact ok23
  · cases h; exact ok24
  · cases h; exact ok25
  · cases h; exact ok26
  · cases h; exact ok27
  · cases h; exact ok28
  · cases h; exact ok29
  · cases h; exact ok30
  · cases h; exact ok31
  · cases h
end Go.Proofs.Ytepdkmdcainddaa
namespace Go.Proofs.Ytepdkmdcainddaa
open Go Go.Itp
set_option linter.unusedSimpArgs false
set_option linter.unusedVariables false
set_option maxRecDepth 100000
set_option maxHeartbeats 1000000
attribute [local irreducible] Does
def prims0 : List (FuncId × Prim × TypeId) := [(32, .same, 0)]
theorem prims_all : AllPrims Try.prog prims0 :=
  ⟨⟨⟨Try.f32, Try.func32, by kernel_rfl, by kernel_rfl, by kernel_rfl, rfl⟩⟩, trivial⟩
abbrev EN (w : World) (n : Nat) : Env := callP (oldOf w) many fns (primsOf prims0) n
abbrev vI : Int → Value := .int .i64
theorem idsL_ints (n0 : Nat) (l : List Int) : idsL n0 (l.map vI) = [] := idsL_map (fun _ => rfl) l
theorem idsL_bools (n0 : Nat) (l : List Bool) : idsL n0 (l.map Value.bool) = [] := idsL_map (fun _ => rfl) l

/-! ### a chain -/
/-- a slice that reads as a chain's cards -/
structure CB (w : World) (h : Heap) (nx : Nat) (vC : Value) (rs : List Value) (V : List (List Bool)) : Prop where
  v : Rd (oldOf w) h (fun x : Value => x) vC rs
  len : rs.length = V.length
  r : ∀ k, k < V.length → Rd (oldOf w) h Value.bool rs[k]! V[k]!
  bv : bidN vC ≤ nx
  br : ∀ k, k < V.length → bidN rs[k]! ≤ nx
  lv : V.length ≤ 1000000
  lr : ∀ k, k < V.length → V[k]!.length ≤ 1000000
theorem CB.hx {w : World} {h h' : Heap} {nx nx' : Nat} {vC : Value} {rs : List Value} {V : List (List Bool)} (t : CB w h nx vC rs V) (hx : HX nx h h') (hn : nx ≤ nx') : CB w h' nx' vC rs V :=
  ⟨t.v.hx hx t.bv, t.len, fun k hk => (t.r k hk).hx hx (t.br k hk), Nat.le_trans t.bv hn, fun k hk => Nat.le_trans (t.br k hk) hn, t.lv, t.lr⟩
theorem CB.push {w : World} {h : Heap} {nx nx' : Nat} {vC : Value} {rs : List Value} {V : List (List Bool)} (t : CB w h nx vC rs V) (bs : List Blk) (hn : nx ≤ nx') : CB w (hpush h nx bs) nx' vC rs V :=
  t.hx ((HX.refl _ _).push _ (Nat.le_refl _)) hn
section
variable (w : World) (n : Nat) {vC : Value} {rs : List Value} {V : List (List Bool)} {h : Heap} {nx p : Nat}
def validS (q : Int) (V : List (List Bool)) : Bool := decide (1 ≤ q ∧ q ≤ 40 ∧ 2 ≤ V.length ∧ V.length ≤ 65 ∧ ∀ k, k < V.length → (V[k]!.length : Int) = q + 1)
theorem chain_p (t : CB w h nx vC rs V) (q : Int) (hq : -9223372036854775808 ≤ q ∧ q ≤ 9223372036854775807) :
    (EN w (n + 1)).pcall 23 [.agg [.int .i64 q, vC].toArray] ⟨h, nx, p⟩ = some (.int .i64 (if validS q V then 0 else 8), []) := by
  refine pcall_eq rfl rfl (Nat.le_of_ble_eq_true rfl) ?_
  have t' := t.push [⟨[.int .i64 q, vC], 1, false, 24⟩] (nx' := nx + 1) (by omega)
  have hlen := t.len
  have hlv := t.lv
  by_cases h1 : q < 1
  · repeat' (first | (simp (disch := first | omega | assumption |  exact callP_old _ _ _ _ _ | exact one_int _ _ | exact one_bool _ | exact one_string _ | exact one_slice _ _ _ | exact one_pointer _ | exact hget_push_one _ _ _ _ (by omega) | (simp only [List.length_map, List.length_set, List.length_replicate, List.length_cons, List.length_nil]; omega) | (rw [hget_push_lt _ _ _ _ (by omega)]; first | assumption | exact hget_push_one _ _ _ _ (by omega))) only [WW0, WW1, WW2, WW3, WW4, WW5, WW6, WW7, Option.map_some, args0, slotsL, opdsA, List.cons_append, List.nil_append, List.map_cons, List.map_nil, List.append_nil, Option.toList_some, Option.toList_none, Nat.reduceEqDiff, Nat.reduceLT, Nat.reduceAdd, Nat.reduceBEq, Int.reduceAdd, Int.reduceSub, Int.reduceLT, Int.reduceLE, Int.reduceEq, Int.reduceNeg, ↓reduceIte, if_true, if_false, Bool.false_eq_true, Bool.not_true, Bool.not_false, List.length_cons, List.length_nil, List.length_singleton, reduceCtorEq, Int.toNat_natCast, Nat.zero_add, Nat.add_zero, Int.add_sub_cancel, eq_self, List.drop_zero, List.drop_succ_cons, Option.some.injEq, Prod.mk.injEq, mkFnA, Bool.and_true, Bool.true_and, Bool.and_self]) | (refine does_goI_dec (fun _ => ?_) (fun _ => ?_)) | (refine does_goG_dec (fun _ => ?_) (fun _ => ?_)) | (refine does_goI (fun _ => ?_) (fun _ => ?_)) | (refine does_goG (fun _ => ?_) (fun _ => ?_)))
    rw [if_neg (by simp [validS]; omega)]
  by_cases h2 : 40 < q
  · repeat' (first | (simp (disch := first | omega | assumption |  exact callP_old _ _ _ _ _ | exact one_int _ _ | exact one_bool _ | exact one_string _ | exact one_slice _ _ _ | exact one_pointer _ | exact hget_push_one _ _ _ _ (by omega) | (simp only [List.length_map, List.length_set, List.length_replicate, List.length_cons, List.length_nil]; omega) | (rw [hget_push_lt _ _ _ _ (by omega)]; first | assumption | exact hget_push_one _ _ _ _ (by omega))) only [WW0, WW1, WW2, WW3, WW4, WW5, WW6, WW7, Option.map_some, args0, slotsL, opdsA, List.cons_append, List.nil_append, List.map_cons, List.map_nil, List.append_nil, Option.toList_some, Option.toList_none, Nat.reduceEqDiff, Nat.reduceLT, Nat.reduceAdd, Nat.reduceBEq, Int.reduceAdd, Int.reduceSub, Int.reduceLT, Int.reduceLE, Int.reduceEq, Int.reduceNeg, ↓reduceIte, if_true, if_false, Bool.false_eq_true, Bool.not_true, Bool.not_false, List.length_cons, List.length_nil, List.length_singleton, reduceCtorEq, Int.toNat_natCast, Nat.zero_add, Nat.add_zero, Int.add_sub_cancel, eq_self, List.drop_zero, List.drop_succ_cons, Option.some.injEq, Prod.mk.injEq, mkFnA, Bool.and_true, Bool.true_and, Bool.and_self]) | (refine does_goI_dec (fun _ => ?_) (fun _ => ?_)) | (refine does_goG_dec (fun _ => ?_) (fun _ => ?_)) | (refine does_goI (fun _ => ?_) (fun _ => ?_)) | (refine does_goG (fun _ => ?_) (fun _ => ?_)))
    rw [if_neg (by simp [validS]; omega)]
  by_cases h3 : (rs.length : Int) < 2
  · repeat' (first | (simp (disch := first | omega | assumption |  exact callP_old _ _ _ _ _ | exact one_int _ _ | exact one_bool _ | exact one_string _ | exact one_slice _ _ _ | exact one_pointer _ | exact hget_push_one _ _ _ _ (by omega) | (simp only [List.length_map, List.length_set, List.length_replicate, List.length_cons, List.length_nil]; omega) | (rw [hget_push_lt _ _ _ _ (by omega)]; first | assumption | exact hget_push_one _ _ _ _ (by omega))) only [WW0, WW1, WW2, WW3, WW4, WW5, WW6, WW7, Option.map_some, args0, slotsL, opdsA, List.cons_append, List.nil_append, List.map_cons, List.map_nil, List.append_nil, Option.toList_some, Option.toList_none, Nat.reduceEqDiff, Nat.reduceLT, Nat.reduceAdd, Nat.reduceBEq, Int.reduceAdd, Int.reduceSub, Int.reduceLT, Int.reduceLE, Int.reduceEq, Int.reduceNeg, ↓reduceIte, if_true, if_false, Bool.false_eq_true, Bool.not_true, Bool.not_false, List.length_cons, List.length_nil, List.length_singleton, reduceCtorEq, Int.toNat_natCast, Nat.zero_add, Nat.add_zero, Int.add_sub_cancel, eq_self, List.drop_zero, List.drop_succ_cons, Option.some.injEq, Prod.mk.injEq, mkFnA, Bool.and_true, Bool.true_and, Bool.and_self, t'.v.len]) | (refine does_goI_dec (fun _ => ?_) (fun _ => ?_)) | (refine does_goG_dec (fun _ => ?_) (fun _ => ?_)) | (refine does_goI (fun _ => ?_) (fun _ => ?_)) | (refine does_goG (fun _ => ?_) (fun _ => ?_)))
    rw [if_neg (by simp [validS]; omega)]
  by_cases h4 : (65 : Int) < rs.length
  · repeat' (first | (simp (disch := first | omega | assumption |  exact callP_old _ _ _ _ _ | exact one_int _ _ | exact one_bool _ | exact one_string _ | exact one_slice _ _ _ | exact one_pointer _ | exact hget_push_one _ _ _ _ (by omega) | (simp only [List.length_map, List.length_set, List.length_replicate, List.length_cons, List.length_nil]; omega) | (rw [hget_push_lt _ _ _ _ (by omega)]; first | assumption | exact hget_push_one _ _ _ _ (by omega))) only [WW0, WW1, WW2, WW3, WW4, WW5, WW6, WW7, Option.map_some, args0, slotsL, opdsA, List.cons_append, List.nil_append, List.map_cons, List.map_nil, List.append_nil, Option.toList_some, Option.toList_none, Nat.reduceEqDiff, Nat.reduceLT, Nat.reduceAdd, Nat.reduceBEq, Int.reduceAdd, Int.reduceSub, Int.reduceLT, Int.reduceLE, Int.reduceEq, Int.reduceNeg, ↓reduceIte, if_true, if_false, Bool.false_eq_true, Bool.not_true, Bool.not_false, List.length_cons, List.length_nil, List.length_singleton, reduceCtorEq, Int.toNat_natCast, Nat.zero_add, Nat.add_zero, Int.add_sub_cancel, eq_self, List.drop_zero, List.drop_succ_cons, Option.some.injEq, Prod.mk.injEq, mkFnA, Bool.and_true, Bool.true_and, Bool.and_self, t'.v.len]) | (refine does_goI_dec (fun _ => ?_) (fun _ => ?_)) | (refine does_goG_dec (fun _ => ?_) (fun _ => ?_)) | (refine does_goI (fun _ => ?_) (fun _ => ?_)) | (refine does_goG (fun _ => ?_) (fun _ => ?_)))
    rw [if_neg (by simp [validS]; omega)]
  repeat' (first | (simp (disch := first | omega | assumption |  exact callP_old _ _ _ _ _ | exact one_int _ _ | exact one_bool _ | exact one_string _ | exact one_slice _ _ _ | exact one_pointer _ | exact hget_push_one _ _ _ _ (by omega) | (simp only [List.length_map, List.length_set, List.length_replicate, List.length_cons, List.length_nil]; omega) | (rw [hget_push_lt _ _ _ _ (by omega)]; first | assumption | exact hget_push_one _ _ _ _ (by omega))) only [WW0, WW1, WW2, WW3, WW4, WW5, WW6, WW7, Option.map_some, args0, slotsL, opdsA, List.cons_append, List.nil_append, List.map_cons, List.map_nil, List.append_nil, Option.toList_some, Option.toList_none, Nat.reduceEqDiff, Nat.reduceLT, Nat.reduceAdd, Nat.reduceBEq, Int.reduceAdd, Int.reduceSub, Int.reduceLT, Int.reduceLE, Int.reduceEq, Int.reduceNeg, ↓reduceIte, if_true, if_false, Bool.false_eq_true, Bool.not_true, Bool.not_false, List.length_cons, List.length_nil, List.length_singleton, reduceCtorEq, Int.toNat_natCast, Nat.zero_add, Nat.add_zero, Int.add_sub_cancel, eq_self, List.drop_zero, List.drop_succ_cons, Option.some.injEq, Prod.mk.injEq, mkFnA, Bool.and_true, Bool.true_and, Bool.and_self, t'.v.len]) | (refine does_goI_dec (fun _ => ?_) (fun _ => ?_)) | (refine does_goG_dec (fun _ => ?_) (fun _ => ?_)) | (refine does_goI (fun _ => ?_) (fun _ => ?_)) | (refine does_goG (fun _ => ?_) (fun _ => ?_)))
  refine does_while (fun m fr t => ∃ k : Nat, m = V.length - k ∧ k ≤ V.length ∧ fr = [(1, .pointer (some ⟨nx, 0, some 0⟩)), (3, .int .i64 k)] ∧ t = ⟨hpush h nx [⟨[.int .i64 q, vC], 1, false, 24⟩], nx + 1, nx⟩ ∧ ∀ j, j < k → (V[j]!.length : Int) = q + 1) (m := V.length) ?_ ?_ ?_
  · exact ⟨0, by omega, by omega, rfl, rfl, by omega⟩
  · simp (disch := first | omega | assumption |  exact callP_old _ _ _ _ _ | exact one_int _ _ | exact one_bool _ | exact one_string _ | exact one_slice _ _ _ | exact one_pointer _ | exact hget_push_one _ _ _ _ (by omega) | (simp only [List.length_map, List.length_set, List.length_replicate, List.length_cons, List.length_nil]; omega) | (rw [hget_push_lt _ _ _ _ (by omega)]; first | assumption | exact hget_push_one _ _ _ _ (by omega))) only [WW0, WW1, WW2, WW3, WW4, WW5, WW6, WW7, Option.map_some, args0, slotsL, opdsA, List.cons_append, List.nil_append, List.map_cons, List.map_nil, List.append_nil, Option.toList_some, Option.toList_none, Nat.reduceEqDiff, Nat.reduceLT, Nat.reduceAdd, Nat.reduceBEq, Int.reduceAdd, Int.reduceSub, Int.reduceLT, Int.reduceLE, Int.reduceEq, Int.reduceNeg, ↓reduceIte, if_true, if_false, Bool.false_eq_true, Bool.not_true, Bool.not_false, List.length_cons, List.length_nil, List.length_singleton, reduceCtorEq, Int.toNat_natCast, Nat.zero_add, Nat.add_zero, Int.add_sub_cancel, eq_self, List.drop_zero, List.drop_succ_cons, Option.some.injEq, Prod.mk.injEq, mkFnA, Bool.and_true, Bool.true_and, Bool.and_self]
    unfold many; omega
  · rintro m fr tt ⟨k, rfl, hk, rfl, rfl, hj⟩
    by_cases hlt : k < V.length
    · have hr := t'.r k hlt
      have hlr := t.lr k hlt
      by_cases hw : (V[k]!.length : Int) = q + 1
      · repeat' (first | (simp (disch := first | omega | assumption |  exact callP_old _ _ _ _ _ | exact one_int _ _ | exact one_bool _ | exact one_string _ | exact one_slice _ _ _ | exact one_pointer _ | exact hget_push_one _ _ _ _ (by omega) | (simp only [List.length_map, List.length_set, List.length_replicate, List.length_cons, List.length_nil]; omega) | (rw [hget_push_lt _ _ _ _ (by omega)]; first | assumption | exact hget_push_one _ _ _ _ (by omega))) only [WW0, WW1, WW2, WW3, WW4, WW5, WW6, WW7, Option.map_some, args0, slotsL, opdsA, List.cons_append, List.nil_append, List.map_cons, List.map_nil, List.append_nil, Option.toList_some, Option.toList_none, Nat.reduceEqDiff, Nat.reduceLT, Nat.reduceAdd, Nat.reduceBEq, Int.reduceAdd, Int.reduceSub, Int.reduceLT, Int.reduceLE, Int.reduceEq, Int.reduceNeg, ↓reduceIte, if_true, if_false, Bool.false_eq_true, Bool.not_true, Bool.not_false, List.length_cons, List.length_nil, List.length_singleton, reduceCtorEq, Int.toNat_natCast, Nat.zero_add, Nat.add_zero, Int.add_sub_cancel, eq_self, List.drop_zero, List.drop_succ_cons, Option.some.injEq, Prod.mk.injEq, mkFnA, Bool.and_true, Bool.true_and, Bool.and_self, c23l0, t'.v.len, t'.v.idx, t'.v.load, hr.len]) | (refine does_goI_dec (fun _ => ?_) (fun _ => ?_)) | (refine does_goG_dec (fun _ => ?_) (fun _ => ?_)) | (refine does_goI (fun _ => ?_) (fun _ => ?_)) | (refine does_goG (fun _ => ?_) (fun _ => ?_)))
        refine ⟨_, ?_, k + 1, rfl, hlt, by simp, lt_succ_cases hj hw⟩
        omega
      · repeat' (first | (simp (disch := first | omega | assumption |  exact callP_old _ _ _ _ _ | exact one_int _ _ | exact one_bool _ | exact one_string _ | exact one_slice _ _ _ | exact one_pointer _ | exact hget_push_one _ _ _ _ (by omega) | (simp only [List.length_map, List.length_set, List.length_replicate, List.length_cons, List.length_nil]; omega) | (rw [hget_push_lt _ _ _ _ (by omega)]; first | assumption | exact hget_push_one _ _ _ _ (by omega))) only [WW0, WW1, WW2, WW3, WW4, WW5, WW6, WW7, Option.map_some, args0, slotsL, opdsA, List.cons_append, List.nil_append, List.map_cons, List.map_nil, List.append_nil, Option.toList_some, Option.toList_none, Nat.reduceEqDiff, Nat.reduceLT, Nat.reduceAdd, Nat.reduceBEq, Int.reduceAdd, Int.reduceSub, Int.reduceLT, Int.reduceLE, Int.reduceEq, Int.reduceNeg, ↓reduceIte, if_true, if_false, Bool.false_eq_true, Bool.not_true, Bool.not_false, List.length_cons, List.length_nil, List.length_singleton, reduceCtorEq, Int.toNat_natCast, Nat.zero_add, Nat.add_zero, Int.add_sub_cancel, eq_self, List.drop_zero, List.drop_succ_cons, Option.some.injEq, Prod.mk.injEq, mkFnA, Bool.and_true, Bool.true_and, Bool.and_self, c23l0, t'.v.len, t'.v.idx, t'.v.load, hr.len]) | (refine does_goI_dec (fun _ => ?_) (fun _ => ?_)) | (refine does_goG_dec (fun _ => ?_) (fun _ => ?_)) | (refine does_goI (fun _ => ?_) (fun _ => ?_)) | (refine does_goG (fun _ => ?_) (fun _ => ?_)))
        rw [if_neg (by simp only [validS, decide_eq_true_eq]; rintro ⟨_, _, _, _, hh⟩; exact hw (hh k hlt))]
    · have : k = V.length := by omega
      subst this
      repeat' (first | (simp (disch := first | omega | assumption |  exact callP_old _ _ _ _ _ | exact one_int _ _ | exact one_bool _ | exact one_string _ | exact one_slice _ _ _ | exact one_pointer _ | exact hget_push_one _ _ _ _ (by omega) | (simp only [List.length_map, List.length_set, List.length_replicate, List.length_cons, List.length_nil]; omega) | (rw [hget_push_lt _ _ _ _ (by omega)]; first | assumption | exact hget_push_one _ _ _ _ (by omega))) only [WW0, WW1, WW2, WW3, WW4, WW5, WW6, WW7, Option.map_some, args0, slotsL, opdsA, List.cons_append, List.nil_append, List.map_cons, List.map_nil, List.append_nil, Option.toList_some, Option.toList_none, Nat.reduceEqDiff, Nat.reduceLT, Nat.reduceAdd, Nat.reduceBEq, Int.reduceAdd, Int.reduceSub, Int.reduceLT, Int.reduceLE, Int.reduceEq, Int.reduceNeg, ↓reduceIte, if_true, if_false, Bool.false_eq_true, Bool.not_true, Bool.not_false, List.length_cons, List.length_nil, List.length_singleton, reduceCtorEq, Int.toNat_natCast, Nat.zero_add, Nat.add_zero, Int.add_sub_cancel, eq_self, List.drop_zero, List.drop_succ_cons, Option.some.injEq, Prod.mk.injEq, mkFnA, Bool.and_true, Bool.true_and, Bool.and_self, c23l0, t'.v.len]) | (refine does_goI_dec (fun _ => ?_) (fun _ => ?_)) | (refine does_goG_dec (fun _ => ?_) (fun _ => ?_)) | (refine does_goI (fun _ => ?_) (fun _ => ?_)) | (refine does_goG (fun _ => ?_) (fun _ => ?_)))
      have hv : validS q V = true := decide_yes ⟨by omega, by omega, by omega, by omega, hj⟩
      rw [if_pos hv]
def greatS (V : List (List Bool)) : Bool := decide ((∃ k, k < V.length ∧ 50 < V[k]!.length) ∨ 80 < V.length)
theorem great_p (t : CB w h nx vC rs V) (q : Int) :
    (EN w (n + 1)).pcall 4 [.agg [.int .i64 q, vC].toArray] ⟨h, nx, p⟩ = some (.bool (greatS V), []) := by
  refine pcall_eq rfl rfl (Nat.le_of_ble_eq_true rfl) ?_
  have t' := t.push [⟨[.int .i64 q, vC], 1, false, 24⟩] (nx' := nx + 1) (by omega)
  have hlen := t.len
  have hlv := t.lv
  repeat' (first | (simp (disch := first | omega | assumption |  exact callP_old _ _ _ _ _ | exact one_int _ _ | exact one_bool _ | exact one_string _ | exact one_slice _ _ _ | exact one_pointer _ | exact hget_push_one _ _ _ _ (by omega) | (simp only [List.length_map, List.length_set, List.length_replicate, List.length_cons, List.length_nil]; omega) | (rw [hget_push_lt _ _ _ _ (by omega)]; first | assumption | exact hget_push_one _ _ _ _ (by omega))) only [WW0, WW1, WW2, WW3, WW4, WW5, WW6, WW7, Option.map_some, args0, slotsL, opdsA, List.cons_append, List.nil_append, List.map_cons, List.map_nil, List.append_nil, Option.toList_some, Option.toList_none, Nat.reduceEqDiff, Nat.reduceLT, Nat.reduceAdd, Nat.reduceBEq, Int.reduceAdd, Int.reduceSub, Int.reduceLT, Int.reduceLE, Int.reduceEq, Int.reduceNeg, ↓reduceIte, if_true, if_false, Bool.false_eq_true, Bool.not_true, Bool.not_false, List.length_cons, List.length_nil, List.length_singleton, reduceCtorEq, Int.toNat_natCast, Nat.zero_add, Nat.add_zero, Int.add_sub_cancel, eq_self, List.drop_zero, List.drop_succ_cons, Option.some.injEq, Prod.mk.injEq, mkFnA, Bool.and_true, Bool.true_and, Bool.and_self, t'.v.len]) | (refine does_goI_dec (fun _ => ?_) (fun _ => ?_)) | (refine does_goG_dec (fun _ => ?_) (fun _ => ?_)) | (refine does_goI (fun _ => ?_) (fun _ => ?_)) | (refine does_goG (fun _ => ?_) (fun _ => ?_)))
  refine does_while (fun m fr t => ∃ k : Nat, m = V.length - k ∧ k ≤ V.length ∧ fr = [(1, .pointer (some ⟨nx, 0, some 0⟩)), (3, .int .i64 k)] ∧ t = ⟨hpush h nx [⟨[.int .i64 q, vC], 1, false, 24⟩], nx + 1, nx⟩ ∧ ∀ j, j < k → ¬ 50 < V[j]!.length) (m := V.length) ?_ ?_ ?_
  · exact ⟨0, by omega, by omega, rfl, rfl, by omega⟩
  · simp (disch := first | omega | assumption |  exact callP_old _ _ _ _ _ | exact one_int _ _ | exact one_bool _ | exact one_string _ | exact one_slice _ _ _ | exact one_pointer _ | exact hget_push_one _ _ _ _ (by omega) | (simp only [List.length_map, List.length_set, List.length_replicate, List.length_cons, List.length_nil]; omega) | (rw [hget_push_lt _ _ _ _ (by omega)]; first | assumption | exact hget_push_one _ _ _ _ (by omega))) only [WW0, WW1, WW2, WW3, WW4, WW5, WW6, WW7, Option.map_some, args0, slotsL, opdsA, List.cons_append, List.nil_append, List.map_cons, List.map_nil, List.append_nil, Option.toList_some, Option.toList_none, Nat.reduceEqDiff, Nat.reduceLT, Nat.reduceAdd, Nat.reduceBEq, Int.reduceAdd, Int.reduceSub, Int.reduceLT, Int.reduceLE, Int.reduceEq, Int.reduceNeg, ↓reduceIte, if_true, if_false, Bool.false_eq_true, Bool.not_true, Bool.not_false, List.length_cons, List.length_nil, List.length_singleton, reduceCtorEq, Int.toNat_natCast, Nat.zero_add, Nat.add_zero, Int.add_sub_cancel, eq_self, List.drop_zero, List.drop_succ_cons, Option.some.injEq, Prod.mk.injEq, mkFnA, Bool.and_true, Bool.true_and, Bool.and_self]
    unfold many; omega
  · rintro m fr tt ⟨k, rfl, hk, rfl, rfl, hj⟩
    by_cases hlt : k < V.length
    · have hr := t'.r k hlt
      have hlr := t.lr k hlt
      by_cases hw : 50 < V[k]!.length
      · repeat' (first | (simp (disch := first | omega | assumption |  exact callP_old _ _ _ _ _ | exact one_int _ _ | exact one_bool _ | exact one_string _ | exact one_slice _ _ _ | exact one_pointer _ | exact hget_push_one _ _ _ _ (by omega) | (simp only [List.length_map, List.length_set, List.length_replicate, List.length_cons, List.length_nil]; omega) | (rw [hget_push_lt _ _ _ _ (by omega)]; first | assumption | exact hget_push_one _ _ _ _ (by omega))) only [WW0, WW1, WW2, WW3, WW4, WW5, WW6, WW7, Option.map_some, args0, slotsL, opdsA, List.cons_append, List.nil_append, List.map_cons, List.map_nil, List.append_nil, Option.toList_some, Option.toList_none, Nat.reduceEqDiff, Nat.reduceLT, Nat.reduceAdd, Nat.reduceBEq, Int.reduceAdd, Int.reduceSub, Int.reduceLT, Int.reduceLE, Int.reduceEq, Int.reduceNeg, ↓reduceIte, if_true, if_false, Bool.false_eq_true, Bool.not_true, Bool.not_false, List.length_cons, List.length_nil, List.length_singleton, reduceCtorEq, Int.toNat_natCast, Nat.zero_add, Nat.add_zero, Int.add_sub_cancel, eq_self, List.drop_zero, List.drop_succ_cons, Option.some.injEq, Prod.mk.injEq, mkFnA, Bool.and_true, Bool.true_and, Bool.and_self, c4l0, t'.v.len, t'.v.idx, t'.v.load, hr.len]) | (refine does_goI_dec (fun _ => ?_) (fun _ => ?_)) | (refine does_goG_dec (fun _ => ?_) (fun _ => ?_)) | (refine does_goI (fun _ => ?_) (fun _ => ?_)) | (refine does_goG (fun _ => ?_) (fun _ => ?_)))
        exact (decide_yes (Or.inl ⟨k, hlt, hw⟩)).symm
      · repeat' (first | (simp (disch := first | omega | assumption |  exact callP_old _ _ _ _ _ | exact one_int _ _ | exact one_bool _ | exact one_string _ | exact one_slice _ _ _ | exact one_pointer _ | exact hget_push_one _ _ _ _ (by omega) | (simp only [List.length_map, List.length_set, List.length_replicate, List.length_cons, List.length_nil]; omega) | (rw [hget_push_lt _ _ _ _ (by omega)]; first | assumption | exact hget_push_one _ _ _ _ (by omega))) only [WW0, WW1, WW2, WW3, WW4, WW5, WW6, WW7, Option.map_some, args0, slotsL, opdsA, List.cons_append, List.nil_append, List.map_cons, List.map_nil, List.append_nil, Option.toList_some, Option.toList_none, Nat.reduceEqDiff, Nat.reduceLT, Nat.reduceAdd, Nat.reduceBEq, Int.reduceAdd, Int.reduceSub, Int.reduceLT, Int.reduceLE, Int.reduceEq, Int.reduceNeg, ↓reduceIte, if_true, if_false, Bool.false_eq_true, Bool.not_true, Bool.not_false, List.length_cons, List.length_nil, List.length_singleton, reduceCtorEq, Int.toNat_natCast, Nat.zero_add, Nat.add_zero, Int.add_sub_cancel, eq_self, List.drop_zero, List.drop_succ_cons, Option.some.injEq, Prod.mk.injEq, mkFnA, Bool.and_true, Bool.true_and, Bool.and_self, c4l0, t'.v.len, t'.v.idx, t'.v.load, hr.len]) | (refine does_goI_dec (fun _ => ?_) (fun _ => ?_)) | (refine does_goG_dec (fun _ => ?_) (fun _ => ?_)) | (refine does_goI (fun _ => ?_) (fun _ => ?_)) | (refine does_goG (fun _ => ?_) (fun _ => ?_)))
        refine ⟨_, ?_, k + 1, rfl, hlt, by simp, lt_succ_cases hj hw⟩
        omega
    · have : k = V.length := by omega
      subst this
      repeat' (first | (simp (disch := first | omega | assumption |  exact callP_old _ _ _ _ _ | exact one_int _ _ | exact one_bool _ | exact one_string _ | exact one_slice _ _ _ | exact one_pointer _ | exact hget_push_one _ _ _ _ (by omega) | (simp only [List.length_map, List.length_set, List.length_replicate, List.length_cons, List.length_nil]; omega) | (rw [hget_push_lt _ _ _ _ (by omega)]; first | assumption | exact hget_push_one _ _ _ _ (by omega))) only [WW0, WW1, WW2, WW3, WW4, WW5, WW6, WW7, Option.map_some, args0, slotsL, opdsA, List.cons_append, List.nil_append, List.map_cons, List.map_nil, List.append_nil, Option.toList_some, Option.toList_none, Nat.reduceEqDiff, Nat.reduceLT, Nat.reduceAdd, Nat.reduceBEq, Int.reduceAdd, Int.reduceSub, Int.reduceLT, Int.reduceLE, Int.reduceEq, Int.reduceNeg, ↓reduceIte, if_true, if_false, Bool.false_eq_true, Bool.not_true, Bool.not_false, List.length_cons, List.length_nil, List.length_singleton, reduceCtorEq, Int.toNat_natCast, Nat.zero_add, Nat.add_zero, Int.add_sub_cancel, eq_self, List.drop_zero, List.drop_succ_cons, Option.some.injEq, Prod.mk.injEq, mkFnA, Bool.and_true, Bool.true_and, Bool.and_self, c4l0, t'.v.len]) | (refine does_goI_dec (fun _ => ?_) (fun _ => ?_)) | (refine does_goG_dec (fun _ => ?_) (fun _ => ?_)) | (refine does_goI (fun _ => ?_) (fun _ => ?_)) | (refine does_goG (fun _ => ?_) (fun _ => ?_)))
      rw [← hlen] at hj
      rw [Bool.eq_iff_iff]
      simp only [greatS, decide_eq_true_eq]
      constructor
      · intro h; right; omega
      · rintro (⟨j, h1, h2⟩ | h)
        · exact (hj j (by omega) h2).elim
        · omega

/-! ### odd numbers of pegs -/
def oddTo (p : Nat → Bool) : Nat → Bool
  | 0 => false
  | k + 1 => !(oddTo p k == p k)
def pegsTo (l : List Bool) : Nat → Nat
  | 0 => 0
  | k + 1 => if l[k]! then pegsTo l k + 1 else pegsTo l k
theorem pegsTo_le (l : List Bool) : ∀ k, pegsTo l k ≤ k
  | 0 => Nat.le_refl _
  | k + 1 => by
    have := pegsTo_le l k
    simp only [pegsTo]; split <;> omega
theorem pegs_odd (l : List Bool) : ∀ k, (decide ((pegsTo l k : Int) % 2 = 1)) = oddTo (fun i => l[i]!) k
  | 0 => rfl
  | k + 1 => by
    have := pegs_odd l k
    rw [pegsTo, oddTo, ← this]
    clear this
    generalize l[k]! = b
    cases b
    · by_cases h : (pegsTo l k : Int) % 2 = 1
      · simp [h]
      · simp [h]
    · by_cases h : (pegsTo l k : Int) % 2 = 1
      · have : ¬ ((pegsTo l k + 1 : Nat) : Int) % 2 = 1 := by omega
        simp only [if_true]
        rw [decide_no this, decide_yes h]; rfl
      · have : ((pegsTo l k + 1 : Nat) : Int) % 2 = 1 := by omega
        simp only [if_true]
        rw [decide_yes this, decide_no h]; rfl
theorem pegs_p {v : Value} {l : List Bool} (hr : Rd (oldOf w) h Value.bool v l) (hm : l.length ≤ 1000000) :
    (EN w (n + 1)).pcall 24 [v] ⟨h, nx, p⟩ = some (.int .i64 (pegsTo l l.length), []) := by
  refine pcall_eq rfl rfl (Nat.le_of_ble_eq_true rfl) ?_
  repeat' (first | (simp (disch := first | omega | assumption |  exact callP_old _ _ _ _ _ | exact one_int _ _ | exact one_bool _ | exact one_string _ | exact one_slice _ _ _ | exact one_pointer _ | exact hget_push_one _ _ _ _ (by omega) | (simp only [List.length_map, List.length_set, List.length_replicate, List.length_cons, List.length_nil]; omega) | (rw [hget_push_lt _ _ _ _ (by omega)]; first | assumption | exact hget_push_one _ _ _ _ (by omega))) only [WW0, WW1, WW2, WW3, WW4, WW5, WW6, WW7, Option.map_some, args0, slotsL, opdsA, List.cons_append, List.nil_append, List.map_cons, List.map_nil, List.append_nil, Option.toList_some, Option.toList_none, Nat.reduceEqDiff, Nat.reduceLT, Nat.reduceAdd, Nat.reduceBEq, Int.reduceAdd, Int.reduceSub, Int.reduceLT, Int.reduceLE, Int.reduceEq, Int.reduceNeg, ↓reduceIte, if_true, if_false, Bool.false_eq_true, Bool.not_true, Bool.not_false, List.length_cons, List.length_nil, List.length_singleton, reduceCtorEq, Int.toNat_natCast, Nat.zero_add, Nat.add_zero, Int.add_sub_cancel, eq_self, List.drop_zero, List.drop_succ_cons, Option.some.injEq, Prod.mk.injEq, mkFnA, Bool.and_true, Bool.true_and, Bool.and_self, hr.len]) | (refine does_goI_dec (fun _ => ?_) (fun _ => ?_)) | (refine does_goG_dec (fun _ => ?_) (fun _ => ?_)) | (refine does_goI (fun _ => ?_) (fun _ => ?_)) | (refine does_goG (fun _ => ?_) (fun _ => ?_)))
  refine does_while (fun m fr t => ∃ k : Nat, m = l.length - k ∧ k ≤ l.length ∧ fr = [(0, v), (3, .int .i64 (pegsTo l k)), (4, .int .i64 k)] ∧ t = ⟨h, nx, nx⟩) (m := l.length) ?_ ?_ ?_
  · exact ⟨0, by omega, by omega, rfl, rfl⟩
  · simp (disch := first | omega | assumption |  exact callP_old _ _ _ _ _ | exact one_int _ _ | exact one_bool _ | exact one_string _ | exact one_slice _ _ _ | exact one_pointer _ | exact hget_push_one _ _ _ _ (by omega) | (simp only [List.length_map, List.length_set, List.length_replicate, List.length_cons, List.length_nil]; omega) | (rw [hget_push_lt _ _ _ _ (by omega)]; first | assumption | exact hget_push_one _ _ _ _ (by omega))) only [WW0, WW1, WW2, WW3, WW4, WW5, WW6, WW7, Option.map_some, args0, slotsL, opdsA, List.cons_append, List.nil_append, List.map_cons, List.map_nil, List.append_nil, Option.toList_some, Option.toList_none, Nat.reduceEqDiff, Nat.reduceLT, Nat.reduceAdd, Nat.reduceBEq, Int.reduceAdd, Int.reduceSub, Int.reduceLT, Int.reduceLE, Int.reduceEq, Int.reduceNeg, ↓reduceIte, if_true, if_false, Bool.false_eq_true, Bool.not_true, Bool.not_false, List.length_cons, List.length_nil, List.length_singleton, reduceCtorEq, Int.toNat_natCast, Nat.zero_add, Nat.add_zero, Int.add_sub_cancel, eq_self, List.drop_zero, List.drop_succ_cons, Option.some.injEq, Prod.mk.injEq, mkFnA, Bool.and_true, Bool.true_and, Bool.and_self]
    unfold many; omega
  · rintro m fr tt ⟨k, rfl, hk, rfl, rfl⟩
    have hp := pegsTo_le l k
    by_cases hlt : k < l.length
    · cases hb : l[k]!
      · repeat' (first | (simp (disch := first | omega | assumption |  exact callP_old _ _ _ _ _ | exact one_int _ _ | exact one_bool _ | exact one_string _ | exact one_slice _ _ _ | exact one_pointer _ | exact hget_push_one _ _ _ _ (by omega) | (simp only [List.length_map, List.length_set, List.length_replicate, List.length_cons, List.length_nil]; omega) | (rw [hget_push_lt _ _ _ _ (by omega)]; first | assumption | exact hget_push_one _ _ _ _ (by omega))) only [WW0, WW1, WW2, WW3, WW4, WW5, WW6, WW7, Option.map_some, args0, slotsL, opdsA, List.cons_append, List.nil_append, List.map_cons, List.map_nil, List.append_nil, Option.toList_some, Option.toList_none, Nat.reduceEqDiff, Nat.reduceLT, Nat.reduceAdd, Nat.reduceBEq, Int.reduceAdd, Int.reduceSub, Int.reduceLT, Int.reduceLE, Int.reduceEq, Int.reduceNeg, ↓reduceIte, if_true, if_false, Bool.false_eq_true, Bool.not_true, Bool.not_false, List.length_cons, List.length_nil, List.length_singleton, reduceCtorEq, Int.toNat_natCast, Nat.zero_add, Nat.add_zero, Int.add_sub_cancel, eq_self, List.drop_zero, List.drop_succ_cons, Option.some.injEq, Prod.mk.injEq, mkFnA, Bool.and_true, Bool.true_and, Bool.and_self, c24l0, hr.len, hr.idx, hr.load, hb]) | (refine does_goI_dec (fun _ => ?_) (fun _ => ?_)) | (refine does_goG_dec (fun _ => ?_) (fun _ => ?_)) | (refine does_goI (fun _ => ?_) (fun _ => ?_)) | (refine does_goG (fun _ => ?_) (fun _ => ?_)))
        refine ⟨_, ?_, k + 1, rfl, hlt, ?_⟩
        · omega
        · simp [pegsTo, hb]
      · repeat' (first | (simp (disch := first | omega | assumption |  exact callP_old _ _ _ _ _ | exact one_int _ _ | exact one_bool _ | exact one_string _ | exact one_slice _ _ _ | exact one_pointer _ | exact hget_push_one _ _ _ _ (by omega) | (simp only [List.length_map, List.length_set, List.length_replicate, List.length_cons, List.length_nil]; omega) | (rw [hget_push_lt _ _ _ _ (by omega)]; first | assumption | exact hget_push_one _ _ _ _ (by omega))) only [WW0, WW1, WW2, WW3, WW4, WW5, WW6, WW7, Option.map_some, args0, slotsL, opdsA, List.cons_append, List.nil_append, List.map_cons, List.map_nil, List.append_nil, Option.toList_some, Option.toList_none, Nat.reduceEqDiff, Nat.reduceLT, Nat.reduceAdd, Nat.reduceBEq, Int.reduceAdd, Int.reduceSub, Int.reduceLT, Int.reduceLE, Int.reduceEq, Int.reduceNeg, ↓reduceIte, if_true, if_false, Bool.false_eq_true, Bool.not_true, Bool.not_false, List.length_cons, List.length_nil, List.length_singleton, reduceCtorEq, Int.toNat_natCast, Nat.zero_add, Nat.add_zero, Int.add_sub_cancel, eq_self, List.drop_zero, List.drop_succ_cons, Option.some.injEq, Prod.mk.injEq, mkFnA, Bool.and_true, Bool.true_and, Bool.and_self, c24l0, hr.len, hr.idx, hr.load, hb]) | (refine does_goI_dec (fun _ => ?_) (fun _ => ?_)) | (refine does_goG_dec (fun _ => ?_) (fun _ => ?_)) | (refine does_goI (fun _ => ?_) (fun _ => ?_)) | (refine does_goG (fun _ => ?_) (fun _ => ?_)))
        refine ⟨_, ?_, k + 1, rfl, hlt, ?_⟩
        · omega
        · simp [pegsTo, hb]
    · have : k = l.length := by omega
      subst this
      repeat' (first | (simp (disch := first | omega | assumption |  exact callP_old _ _ _ _ _ | exact one_int _ _ | exact one_bool _ | exact one_string _ | exact one_slice _ _ _ | exact one_pointer _ | exact hget_push_one _ _ _ _ (by omega) | (simp only [List.length_map, List.length_set, List.length_replicate, List.length_cons, List.length_nil]; omega) | (rw [hget_push_lt _ _ _ _ (by omega)]; first | assumption | exact hget_push_one _ _ _ _ (by omega))) only [WW0, WW1, WW2, WW3, WW4, WW5, WW6, WW7, Option.map_some, args0, slotsL, opdsA, List.cons_append, List.nil_append, List.map_cons, List.map_nil, List.append_nil, Option.toList_some, Option.toList_none, Nat.reduceEqDiff, Nat.reduceLT, Nat.reduceAdd, Nat.reduceBEq, Int.reduceAdd, Int.reduceSub, Int.reduceLT, Int.reduceLE, Int.reduceEq, Int.reduceNeg, ↓reduceIte, if_true, if_false, Bool.false_eq_true, Bool.not_true, Bool.not_false, List.length_cons, List.length_nil, List.length_singleton, reduceCtorEq, Int.toNat_natCast, Nat.zero_add, Nat.add_zero, Int.add_sub_cancel, eq_self, List.drop_zero, List.drop_succ_cons, Option.some.injEq, Prod.mk.injEq, mkFnA, Bool.and_true, Bool.true_and, Bool.and_self, c24l0, hr.len]) | (refine does_goI_dec (fun _ => ?_) (fun _ => ?_)) | (refine does_goG_dec (fun _ => ?_) (fun _ => ?_)) | (refine does_goI (fun _ => ?_) (fun _ => ?_)) | (refine does_goG (fun _ => ?_) (fun _ => ?_)))
/-- the closure's answers -/
theorem odd_p {f : FuncId} {caps : List Value} (q : Nat) (pr : Nat → Bool) (hq : q ≤ 1000000) (hc : ∀ i, i < q → (EN w n).pcall f (.int .i64 i :: caps) ⟨h, nx, nx⟩ = some (.bool (pr i), [])) :
    (EN w (n + 1)).pcall 20 [.int .i64 q, .func (.func f) #[] caps.toArray] ⟨h, nx, p⟩ = some (.bool (oddTo pr q), []) := by
  refine pcall_eq rfl rfl (Nat.le_of_ble_eq_true rfl) ?_
  repeat' (first | (simp (disch := first | omega | assumption |  exact callP_old _ _ _ _ _ | exact one_int _ _ | exact one_bool _ | exact one_string _ | exact one_slice _ _ _ | exact one_pointer _ | exact hget_push_one _ _ _ _ (by omega) | (simp only [List.length_map, List.length_set, List.length_replicate, List.length_cons, List.length_nil]; omega) | (rw [hget_push_lt _ _ _ _ (by omega)]; first | assumption | exact hget_push_one _ _ _ _ (by omega))) only [WW0, WW1, WW2, WW3, WW4, WW5, WW6, WW7, Option.map_some, args0, slotsL, opdsA, List.cons_append, List.nil_append, List.map_cons, List.map_nil, List.append_nil, Option.toList_some, Option.toList_none, Nat.reduceEqDiff, Nat.reduceLT, Nat.reduceAdd, Nat.reduceBEq, Int.reduceAdd, Int.reduceSub, Int.reduceLT, Int.reduceLE, Int.reduceEq, Int.reduceNeg, ↓reduceIte, if_true, if_false, Bool.false_eq_true, Bool.not_true, Bool.not_false, List.length_cons, List.length_nil, List.length_singleton, reduceCtorEq, Int.toNat_natCast, Nat.zero_add, Nat.add_zero, Int.add_sub_cancel, eq_self, List.drop_zero, List.drop_succ_cons, Option.some.injEq, Prod.mk.injEq, mkFnA, Bool.and_true, Bool.true_and, Bool.and_self]) | (refine does_goI_dec (fun _ => ?_) (fun _ => ?_)) | (refine does_goG_dec (fun _ => ?_) (fun _ => ?_)) | (refine does_goI (fun _ => ?_) (fun _ => ?_)) | (refine does_goG (fun _ => ?_) (fun _ => ?_)))
  refine does_while (fun m fr t => ∃ k : Nat, m = q - k ∧ k ≤ q ∧ fr = [(1, .func (.func f) #[] caps.toArray), (5, .bool (oddTo pr k)), (7, .int .i64 q), (8, .int .i64 k)] ∧ t = ⟨h, nx, nx⟩) (m := q) ?_ ?_ ?_
  · exact ⟨0, by omega, by omega, rfl, rfl⟩
  · simp (disch := first | omega | assumption |  exact callP_old _ _ _ _ _ | exact one_int _ _ | exact one_bool _ | exact one_string _ | exact one_slice _ _ _ | exact one_pointer _ | exact hget_push_one _ _ _ _ (by omega) | (simp only [List.length_map, List.length_set, List.length_replicate, List.length_cons, List.length_nil]; omega) | (rw [hget_push_lt _ _ _ _ (by omega)]; first | assumption | exact hget_push_one _ _ _ _ (by omega))) only [WW0, WW1, WW2, WW3, WW4, WW5, WW6, WW7, Option.map_some, args0, slotsL, opdsA, List.cons_append, List.nil_append, List.map_cons, List.map_nil, List.append_nil, Option.toList_some, Option.toList_none, Nat.reduceEqDiff, Nat.reduceLT, Nat.reduceAdd, Nat.reduceBEq, Int.reduceAdd, Int.reduceSub, Int.reduceLT, Int.reduceLE, Int.reduceEq, Int.reduceNeg, ↓reduceIte, if_true, if_false, Bool.false_eq_true, Bool.not_true, Bool.not_false, List.length_cons, List.length_nil, List.length_singleton, reduceCtorEq, Int.toNat_natCast, Nat.zero_add, Nat.add_zero, Int.add_sub_cancel, eq_self, List.drop_zero, List.drop_succ_cons, Option.some.injEq, Prod.mk.injEq, mkFnA, Bool.and_true, Bool.true_and, Bool.and_self]
    unfold many; omega
  · rintro m fr tt ⟨k, rfl, hk, rfl, rfl⟩
    by_cases hlt : k < q
    · repeat' (first | (simp (disch := first | omega | assumption |  exact callP_old _ _ _ _ _ | exact one_int _ _ | exact one_bool _ | exact one_string _ | exact one_slice _ _ _ | exact one_pointer _ | exact hget_push_one _ _ _ _ (by omega) | (simp only [List.length_map, List.length_set, List.length_replicate, List.length_cons, List.length_nil]; omega) | (rw [hget_push_lt _ _ _ _ (by omega)]; first | assumption | exact hget_push_one _ _ _ _ (by omega))) only [WW0, WW1, WW2, WW3, WW4, WW5, WW6, WW7, Option.map_some, args0, slotsL, opdsA, List.cons_append, List.nil_append, List.map_cons, List.map_nil, List.append_nil, Option.toList_some, Option.toList_none, Nat.reduceEqDiff, Nat.reduceLT, Nat.reduceAdd, Nat.reduceBEq, Int.reduceAdd, Int.reduceSub, Int.reduceLT, Int.reduceLE, Int.reduceEq, Int.reduceNeg, ↓reduceIte, if_true, if_false, Bool.false_eq_true, Bool.not_true, Bool.not_false, List.length_cons, List.length_nil, List.length_singleton, reduceCtorEq, Int.toNat_natCast, Nat.zero_add, Nat.add_zero, Int.add_sub_cancel, eq_self, List.drop_zero, List.drop_succ_cons, Option.some.injEq, Prod.mk.injEq, mkFnA, Bool.and_true, Bool.true_and, Bool.and_self, c20l0, hc k hlt]) | (refine does_goI_dec (fun _ => ?_) (fun _ => ?_)) | (refine does_goG_dec (fun _ => ?_) (fun _ => ?_)) | (refine does_goI (fun _ => ?_) (fun _ => ?_)) | (refine does_goG (fun _ => ?_) (fun _ => ?_)))
      refine ⟨_, ?_, k + 1, rfl, hlt, ?_⟩
      · omega
      · simp [oddTo]
    · have : k = q := by omega
      subst this
      repeat' (first | (simp (disch := first | omega | assumption |  exact callP_old _ _ _ _ _ | exact one_int _ _ | exact one_bool _ | exact one_string _ | exact one_slice _ _ _ | exact one_pointer _ | exact hget_push_one _ _ _ _ (by omega) | (simp only [List.length_map, List.length_set, List.length_replicate, List.length_cons, List.length_nil]; omega) | (rw [hget_push_lt _ _ _ _ (by omega)]; first | assumption | exact hget_push_one _ _ _ _ (by omega))) only [WW0, WW1, WW2, WW3, WW4, WW5, WW6, WW7, Option.map_some, args0, slotsL, opdsA, List.cons_append, List.nil_append, List.map_cons, List.map_nil, List.append_nil, Option.toList_some, Option.toList_none, Nat.reduceEqDiff, Nat.reduceLT, Nat.reduceAdd, Nat.reduceBEq, Int.reduceAdd, Int.reduceSub, Int.reduceLT, Int.reduceLE, Int.reduceEq, Int.reduceNeg, ↓reduceIte, if_true, if_false, Bool.false_eq_true, Bool.not_true, Bool.not_false, List.length_cons, List.length_nil, List.length_singleton, reduceCtorEq, Int.toNat_natCast, Nat.zero_add, Nat.add_zero, Int.add_sub_cancel, eq_self, List.drop_zero, List.drop_succ_cons, Option.some.injEq, Prod.mk.injEq, mkFnA, Bool.and_true, Bool.true_and, Bool.and_self, c20l0]) | (refine does_goI_dec (fun _ => ?_) (fun _ => ?_)) | (refine does_goG_dec (fun _ => ?_) (fun _ => ?_)) | (refine does_goI (fun _ => ?_) (fun _ => ?_)) | (refine does_goG (fun _ => ?_) (fun _ => ?_)))
end
end Go.Proofs.Ytepdkmdcainddaa
namespace Go.Proofs.Ytepdkmdcainddaa
open Go Go.Itp
set_option linter.unusedSimpArgs false
set_option linter.unusedVariables false
set_option maxRecDepth 100000
set_option maxHeartbeats 1000000
attribute [local irreducible] Does

/-- the first place where a predicate holds, or -1 -/
def firstP (pr : Nat → Bool) : Nat → Int
  | 0 => -1
  | k + 1 => if 0 ≤ firstP pr k then firstP pr k else if pr k then k else -1
theorem firstP_none {pr : Nat → Bool} : ∀ k, (∀ j, j < k → ¬ pr j = true) → firstP pr k = -1
  | 0, _ => rfl
  | k + 1, h => by
    simp only [firstP]
    rw [firstP_none k (fun j hj => h j (by omega)), if_neg (by omega), if_neg (h k (by omega))]
theorem firstP_some {pr : Nat → Bool} {i : Nat} (hi : pr i = true) (h : ∀ j, j < i → ¬ pr j = true) : ∀ k, i < k → firstP pr k = i
  | 0, h => by omega
  | k + 1, hk => by
    simp only [firstP]
    by_cases e : i = k
    · subst e; rw [firstP_none i h, if_neg (by omega), if_pos hi]
    · rw [firstP_some hi h k (by omega), if_pos (by omega)]
theorem firstP_iff (pr : Nat → Bool) : ∀ k, 0 ≤ firstP pr k ↔ ∃ j, j < k ∧ pr j = true
  | 0 => by simp [firstP]
  | k + 1 => by
    have ih := firstP_iff pr k
    simp only [firstP]
    by_cases h0 : 0 ≤ firstP pr k
    · rw [if_pos h0]
      obtain ⟨j, h1, h2⟩ := ih.1 h0
      exact ⟨fun _ => ⟨j, by omega, h2⟩, fun _ => h0⟩
    · rw [if_neg h0]
      by_cases h1 : pr k = true
      · rw [if_pos h1]; exact ⟨fun _ => ⟨k, by omega, h1⟩, fun _ => by omega⟩
      · rw [if_neg h1]
        refine ⟨fun h => by omega, ?_⟩
        rintro ⟨j, h2, h3⟩
        by_cases e : j = k
        · subst e; exact (h1 h3).elim
        · exact (h0 (ih.2 ⟨j, by omega, h3⟩)).elim
section
variable (w : World) (n : Nat) {vC : Value} {rs : List Value} {V : List (List Bool)} {h : Heap} {nx p : Nat}
theorem indexf_p {f : FuncId} {caps : List Value} (hr : Rd (oldOf w) h (fun x : Value => x) vC rs) (hm : rs.length ≤ 1000000) (pr : Nat → Bool) (hc : ∀ i, i < rs.length → (EN w n).pcall f (rs[i]! :: caps) ⟨h, nx, nx⟩ = some (.bool (pr i), [])) :
    (EN w (n + 1)).pcall 31 [vC, .func (.func f) #[] caps.toArray] ⟨h, nx, p⟩ = some (.int .i64 (firstP pr rs.length), []) := by
  refine pcall_eq rfl rfl (Nat.le_of_ble_eq_true rfl) ?_
  repeat' (first | (simp (disch := first | omega | assumption |  exact callP_old _ _ _ _ _ | exact one_int _ _ | exact one_bool _ | exact one_string _ | exact one_slice _ _ _ | exact one_pointer _ | exact hget_push_one _ _ _ _ (by omega) | (simp only [List.length_map, List.length_set, List.length_replicate, List.length_cons, List.length_nil]; omega) | (rw [hget_push_lt _ _ _ _ (by omega)]; first | assumption | exact hget_push_one _ _ _ _ (by omega))) only [WW0, WW1, WW2, WW3, WW4, WW5, WW6, WW7, Option.map_some, args0, slotsL, opdsA, List.cons_append, List.nil_append, List.map_cons, List.map_nil, List.append_nil, Option.toList_some, Option.toList_none, Nat.reduceEqDiff, Nat.reduceLT, Nat.reduceAdd, Nat.reduceBEq, Int.reduceAdd, Int.reduceSub, Int.reduceLT, Int.reduceLE, Int.reduceEq, Int.reduceNeg, ↓reduceIte, if_true, if_false, Bool.false_eq_true, Bool.not_true, Bool.not_false, List.length_cons, List.length_nil, List.length_singleton, reduceCtorEq, Int.toNat_natCast, Nat.zero_add, Nat.add_zero, Int.add_sub_cancel, eq_self, List.drop_zero, List.drop_succ_cons, Option.some.injEq, Prod.mk.injEq, mkFnA, Bool.and_true, Bool.true_and, Bool.and_self, hr.len]) | (refine does_goI_dec (fun _ => ?_) (fun _ => ?_)) | (refine does_goG_dec (fun _ => ?_) (fun _ => ?_)) | (refine does_goI (fun _ => ?_) (fun _ => ?_)) | (refine does_goG (fun _ => ?_) (fun _ => ?_)))
  refine does_while (fun m fr t => ∃ k : Nat, m = rs.length - k ∧ k ≤ rs.length ∧ fr = [(0, vC), (1, .func (.func f) #[] caps.toArray), (7, .int .i64 rs.length), (8, .int .i64 k)] ∧ t = ⟨h, nx, nx⟩ ∧ ∀ j, j < k → ¬ pr j = true) (m := rs.length) ?_ ?_ ?_
  · exact ⟨0, by omega, by omega, rfl, rfl, by omega⟩
  · simp (disch := first | omega | assumption |  exact callP_old _ _ _ _ _ | exact one_int _ _ | exact one_bool _ | exact one_string _ | exact one_slice _ _ _ | exact one_pointer _ | exact hget_push_one _ _ _ _ (by omega) | (simp only [List.length_map, List.length_set, List.length_replicate, List.length_cons, List.length_nil]; omega) | (rw [hget_push_lt _ _ _ _ (by omega)]; first | assumption | exact hget_push_one _ _ _ _ (by omega))) only [WW0, WW1, WW2, WW3, WW4, WW5, WW6, WW7, Option.map_some, args0, slotsL, opdsA, List.cons_append, List.nil_append, List.map_cons, List.map_nil, List.append_nil, Option.toList_some, Option.toList_none, Nat.reduceEqDiff, Nat.reduceLT, Nat.reduceAdd, Nat.reduceBEq, Int.reduceAdd, Int.reduceSub, Int.reduceLT, Int.reduceLE, Int.reduceEq, Int.reduceNeg, ↓reduceIte, if_true, if_false, Bool.false_eq_true, Bool.not_true, Bool.not_false, List.length_cons, List.length_nil, List.length_singleton, reduceCtorEq, Int.toNat_natCast, Nat.zero_add, Nat.add_zero, Int.add_sub_cancel, eq_self, List.drop_zero, List.drop_succ_cons, Option.some.injEq, Prod.mk.injEq, mkFnA, Bool.and_true, Bool.true_and, Bool.and_self]
    unfold many; omega
  · rintro m fr tt ⟨k, rfl, hk, rfl, rfl, hj⟩
    by_cases hlt : k < rs.length
    · cases hp : pr k
      · have hck := hc k hlt
        rw [hp] at hck
        repeat' (first | (simp (disch := first | omega | assumption |  exact callP_old _ _ _ _ _ | exact one_int _ _ | exact one_bool _ | exact one_string _ | exact one_slice _ _ _ | exact one_pointer _ | exact hget_push_one _ _ _ _ (by omega) | (simp only [List.length_map, List.length_set, List.length_replicate, List.length_cons, List.length_nil]; omega) | (rw [hget_push_lt _ _ _ _ (by omega)]; first | assumption | exact hget_push_one _ _ _ _ (by omega))) only [WW0, WW1, WW2, WW3, WW4, WW5, WW6, WW7, Option.map_some, args0, slotsL, opdsA, List.cons_append, List.nil_append, List.map_cons, List.map_nil, List.append_nil, Option.toList_some, Option.toList_none, Nat.reduceEqDiff, Nat.reduceLT, Nat.reduceAdd, Nat.reduceBEq, Int.reduceAdd, Int.reduceSub, Int.reduceLT, Int.reduceLE, Int.reduceEq, Int.reduceNeg, ↓reduceIte, if_true, if_false, Bool.false_eq_true, Bool.not_true, Bool.not_false, List.length_cons, List.length_nil, List.length_singleton, reduceCtorEq, Int.toNat_natCast, Nat.zero_add, Nat.add_zero, Int.add_sub_cancel, eq_self, List.drop_zero, List.drop_succ_cons, Option.some.injEq, Prod.mk.injEq, mkFnA, Bool.and_true, Bool.true_and, Bool.and_self, c31l0, hr.idx, hr.load, hck]) | (refine does_goI_dec (fun _ => ?_) (fun _ => ?_)) | (refine does_goG_dec (fun _ => ?_) (fun _ => ?_)) | (refine does_goI (fun _ => ?_) (fun _ => ?_)) | (refine does_goG (fun _ => ?_) (fun _ => ?_)))
        refine ⟨_, ?_, k + 1, rfl, hlt, ?_, lt_succ_cases hj (by simp [hp])⟩
        · omega
        · simp
      · have hck := hc k hlt
        rw [hp] at hck
        repeat' (first | (simp (disch := first | omega | assumption |  exact callP_old _ _ _ _ _ | exact one_int _ _ | exact one_bool _ | exact one_string _ | exact one_slice _ _ _ | exact one_pointer _ | exact hget_push_one _ _ _ _ (by omega) | (simp only [List.length_map, List.length_set, List.length_replicate, List.length_cons, List.length_nil]; omega) | (rw [hget_push_lt _ _ _ _ (by omega)]; first | assumption | exact hget_push_one _ _ _ _ (by omega))) only [WW0, WW1, WW2, WW3, WW4, WW5, WW6, WW7, Option.map_some, args0, slotsL, opdsA, List.cons_append, List.nil_append, List.map_cons, List.map_nil, List.append_nil, Option.toList_some, Option.toList_none, Nat.reduceEqDiff, Nat.reduceLT, Nat.reduceAdd, Nat.reduceBEq, Int.reduceAdd, Int.reduceSub, Int.reduceLT, Int.reduceLE, Int.reduceEq, Int.reduceNeg, ↓reduceIte, if_true, if_false, Bool.false_eq_true, Bool.not_true, Bool.not_false, List.length_cons, List.length_nil, List.length_singleton, reduceCtorEq, Int.toNat_natCast, Nat.zero_add, Nat.add_zero, Int.add_sub_cancel, eq_self, List.drop_zero, List.drop_succ_cons, Option.some.injEq, Prod.mk.injEq, mkFnA, Bool.and_true, Bool.true_and, Bool.and_self, c31l0, hr.idx, hr.load, hck]) | (refine does_goI_dec (fun _ => ?_) (fun _ => ?_)) | (refine does_goG_dec (fun _ => ?_) (fun _ => ?_)) | (refine does_goI (fun _ => ?_) (fun _ => ?_)) | (refine does_goG (fun _ => ?_) (fun _ => ?_)))
        rw [firstP_some hp hj _ hlt]
    · have : k = rs.length := by omega
      subst this
      repeat' (first | (simp (disch := first | omega | assumption |  exact callP_old _ _ _ _ _ | exact one_int _ _ | exact one_bool _ | exact one_string _ | exact one_slice _ _ _ | exact one_pointer _ | exact hget_push_one _ _ _ _ (by omega) | (simp only [List.length_map, List.length_set, List.length_replicate, List.length_cons, List.length_nil]; omega) | (rw [hget_push_lt _ _ _ _ (by omega)]; first | assumption | exact hget_push_one _ _ _ _ (by omega))) only [WW0, WW1, WW2, WW3, WW4, WW5, WW6, WW7, Option.map_some, args0, slotsL, opdsA, List.cons_append, List.nil_append, List.map_cons, List.map_nil, List.append_nil, Option.toList_some, Option.toList_none, Nat.reduceEqDiff, Nat.reduceLT, Nat.reduceAdd, Nat.reduceBEq, Int.reduceAdd, Int.reduceSub, Int.reduceLT, Int.reduceLE, Int.reduceEq, Int.reduceNeg, ↓reduceIte, if_true, if_false, Bool.false_eq_true, Bool.not_true, Bool.not_false, List.length_cons, List.length_nil, List.length_singleton, reduceCtorEq, Int.toNat_natCast, Nat.zero_add, Nat.add_zero, Int.add_sub_cancel, eq_self, List.drop_zero, List.drop_succ_cons, Option.some.injEq, Prod.mk.injEq, mkFnA, Bool.and_true, Bool.true_and, Bool.and_self, c31l0]) | (refine does_goI_dec (fun _ => ?_) (fun _ => ?_)) | (refine does_goG_dec (fun _ => ?_) (fun _ => ?_)) | (refine does_goI (fun _ => ?_) (fun _ => ?_)) | (refine does_goG (fun _ => ?_) (fun _ => ?_)))
      rw [firstP_none _ hj]
theorem firstP_lt (pr : Nat → Bool) (k : Nat) : -1 ≤ firstP pr k ∧ firstP pr k < k := by
  induction k with
  | zero => simp [firstP]
  | succ k ih =>
    simp only [firstP]
    split
    · omega
    · split <;> omega
theorem containsf_p {f : FuncId} {caps : List Value} (hr : Rd (oldOf w) h (fun x : Value => x) vC rs) (hm : rs.length ≤ 1000000) (pr : Nat → Bool) (hc : ∀ i, i < rs.length → (EN w n).pcall f (rs[i]! :: caps) ⟨h, nx, nx⟩ = some (.bool (pr i), [])) :
    (EN w (n + 2)).pcall 28 [vC, .func (.func f) #[] caps.toArray] ⟨h, nx, p⟩ = some (.bool (decide (0 ≤ firstP pr rs.length)), []) := by
  refine pcall_eq rfl rfl (Nat.le_of_ble_eq_true rfl) ?_
  have := firstP_lt pr rs.length
  repeat' (first | (simp (disch := first | omega | assumption |  exact callP_old _ _ _ _ _ | exact one_int _ _ | exact one_bool _ | exact one_string _ | exact one_slice _ _ _ | exact one_pointer _ | exact hget_push_one _ _ _ _ (by omega) | (simp only [List.length_map, List.length_set, List.length_replicate, List.length_cons, List.length_nil]; omega) | (rw [hget_push_lt _ _ _ _ (by omega)]; first | assumption | exact hget_push_one _ _ _ _ (by omega))) only [WW0, WW1, WW2, WW3, WW4, WW5, WW6, WW7, Option.map_some, args0, slotsL, opdsA, List.cons_append, List.nil_append, List.map_cons, List.map_nil, List.append_nil, Option.toList_some, Option.toList_none, Nat.reduceEqDiff, Nat.reduceLT, Nat.reduceAdd, Nat.reduceBEq, Int.reduceAdd, Int.reduceSub, Int.reduceLT, Int.reduceLE, Int.reduceEq, Int.reduceNeg, ↓reduceIte, if_true, if_false, Bool.false_eq_true, Bool.not_true, Bool.not_false, List.length_cons, List.length_nil, List.length_singleton, reduceCtorEq, Int.toNat_natCast, Nat.zero_add, Nat.add_zero, Int.add_sub_cancel, eq_self, List.drop_zero, List.drop_succ_cons, Option.some.injEq, Prod.mk.injEq, mkFnA, Bool.and_true, Bool.true_and, Bool.and_self, indexf_p w n hr hm pr hc]) | (refine does_goI_dec (fun _ => ?_) (fun _ => ?_)) | (refine does_goG_dec (fun _ => ?_) (fun _ => ?_)) | (refine does_goI (fun _ => ?_) (fun _ => ?_)) | (refine does_goG (fun _ => ?_) (fun _ => ?_)))
theorem valid1_p {b : Nat} {q : Int} {t : TypeId} {v : Value} {l : List Bool} (hb : hget h b = some ⟨[.int .i64 q, vC], 1, false, t⟩) (hq : 0 ≤ q ∧ q ≤ 40) (hr : Rd (oldOf w) h Value.bool v l) (hl : l.length ≤ 1000000) :
    (EN w (n + 1)).pcall 29 [v, .pointer (some ⟨b, 0, some 0⟩)] ⟨h, nx, p⟩ = some (.bool (decide (¬ (l.length : Int) = q + 1)), []) := by
  refine pcall_eq rfl rfl (Nat.le_of_ble_eq_true rfl) ?_
  repeat' (first | (simp (disch := first | omega | assumption |  exact callP_old _ _ _ _ _ | exact one_int _ _ | exact one_bool _ | exact one_string _ | exact one_slice _ _ _ | exact one_pointer _ | exact hget_push_one _ _ _ _ (by omega) | (simp only [List.length_map, List.length_set, List.length_replicate, List.length_cons, List.length_nil]; omega) | (rw [hget_push_lt _ _ _ _ (by omega)]; first | assumption | exact hget_push_one _ _ _ _ (by omega))) only [WW0, WW1, WW2, WW3, WW4, WW5, WW6, WW7, Option.map_some, args0, slotsL, opdsA, List.cons_append, List.nil_append, List.map_cons, List.map_nil, List.append_nil, Option.toList_some, Option.toList_none, Nat.reduceEqDiff, Nat.reduceLT, Nat.reduceAdd, Nat.reduceBEq, Int.reduceAdd, Int.reduceSub, Int.reduceLT, Int.reduceLE, Int.reduceEq, Int.reduceNeg, ↓reduceIte, if_true, if_false, Bool.false_eq_true, Bool.not_true, Bool.not_false, List.length_cons, List.length_nil, List.length_singleton, reduceCtorEq, Int.toNat_natCast, Nat.zero_add, Nat.add_zero, Int.add_sub_cancel, eq_self, List.drop_zero, List.drop_succ_cons, Option.some.injEq, Prod.mk.injEq, mkFnA, Bool.and_true, Bool.true_and, Bool.and_self, hr.len, hb]) | (refine does_goI_dec (fun _ => ?_) (fun _ => ?_)) | (refine does_goG_dec (fun _ => ?_) (fun _ => ?_)) | (refine does_goI (fun _ => ?_) (fun _ => ?_)) | (refine does_goG (fun _ => ?_) (fun _ => ?_)))
theorem valid_p (t : CB w h nx vC rs V) (q : Int) (hq : -9223372036854775808 ≤ q ∧ q ≤ 9223372036854775807) :
    (EN w (n + 4)).pcall 19 [.agg [.int .i64 q, vC].toArray] ⟨h, nx, p⟩ = some (.bool (validS q V), []) := by
  refine pcall_eq rfl rfl (Nat.le_of_ble_eq_true rfl) ?_
  have t' := t.push [⟨[.int .i64 q, vC], 1, false, 24⟩] (nx' := nx + 1) (by omega)
  have hlen := t.len
  have hlv := t.lv
  by_cases h1 : q < 1
  · repeat' (first | (simp (disch := first | omega | assumption |  exact callP_old _ _ _ _ _ | exact one_int _ _ | exact one_bool _ | exact one_string _ | exact one_slice _ _ _ | exact one_pointer _ | exact hget_push_one _ _ _ _ (by omega) | (simp only [List.length_map, List.length_set, List.length_replicate, List.length_cons, List.length_nil]; omega) | (rw [hget_push_lt _ _ _ _ (by omega)]; first | assumption | exact hget_push_one _ _ _ _ (by omega))) only [WW0, WW1, WW2, WW3, WW4, WW5, WW6, WW7, Option.map_some, args0, slotsL, opdsA, List.cons_append, List.nil_append, List.map_cons, List.map_nil, List.append_nil, Option.toList_some, Option.toList_none, Nat.reduceEqDiff, Nat.reduceLT, Nat.reduceAdd, Nat.reduceBEq, Int.reduceAdd, Int.reduceSub, Int.reduceLT, Int.reduceLE, Int.reduceEq, Int.reduceNeg, ↓reduceIte, if_true, if_false, Bool.false_eq_true, Bool.not_true, Bool.not_false, List.length_cons, List.length_nil, List.length_singleton, reduceCtorEq, Int.toNat_natCast, Nat.zero_add, Nat.add_zero, Int.add_sub_cancel, eq_self, List.drop_zero, List.drop_succ_cons, Option.some.injEq, Prod.mk.injEq, mkFnA, Bool.and_true, Bool.true_and, Bool.and_self]) | (refine does_goI_dec (fun _ => ?_) (fun _ => ?_)) | (refine does_goG_dec (fun _ => ?_) (fun _ => ?_)) | (refine does_goI (fun _ => ?_) (fun _ => ?_)) | (refine does_goG (fun _ => ?_) (fun _ => ?_)))
    exact (decide_no (by omega)).symm
  by_cases h2 : 40 < q
  · repeat' (first | (simp (disch := first | omega | assumption |  exact callP_old _ _ _ _ _ | exact one_int _ _ | exact one_bool _ | exact one_string _ | exact one_slice _ _ _ | exact one_pointer _ | exact hget_push_one _ _ _ _ (by omega) | (simp only [List.length_map, List.length_set, List.length_replicate, List.length_cons, List.length_nil]; omega) | (rw [hget_push_lt _ _ _ _ (by omega)]; first | assumption | exact hget_push_one _ _ _ _ (by omega))) only [WW0, WW1, WW2, WW3, WW4, WW5, WW6, WW7, Option.map_some, args0, slotsL, opdsA, List.cons_append, List.nil_append, List.map_cons, List.map_nil, List.append_nil, Option.toList_some, Option.toList_none, Nat.reduceEqDiff, Nat.reduceLT, Nat.reduceAdd, Nat.reduceBEq, Int.reduceAdd, Int.reduceSub, Int.reduceLT, Int.reduceLE, Int.reduceEq, Int.reduceNeg, ↓reduceIte, if_true, if_false, Bool.false_eq_true, Bool.not_true, Bool.not_false, List.length_cons, List.length_nil, List.length_singleton, reduceCtorEq, Int.toNat_natCast, Nat.zero_add, Nat.add_zero, Int.add_sub_cancel, eq_self, List.drop_zero, List.drop_succ_cons, Option.some.injEq, Prod.mk.injEq, mkFnA, Bool.and_true, Bool.true_and, Bool.and_self]) | (refine does_goI_dec (fun _ => ?_) (fun _ => ?_)) | (refine does_goG_dec (fun _ => ?_) (fun _ => ?_)) | (refine does_goI (fun _ => ?_) (fun _ => ?_)) | (refine does_goG (fun _ => ?_) (fun _ => ?_)))
    exact (decide_no (by omega)).symm
  by_cases h3 : (rs.length : Int) < 2
  · repeat' (first | (simp (disch := first | omega | assumption |  exact callP_old _ _ _ _ _ | exact one_int _ _ | exact one_bool _ | exact one_string _ | exact one_slice _ _ _ | exact one_pointer _ | exact hget_push_one _ _ _ _ (by omega) | (simp only [List.length_map, List.length_set, List.length_replicate, List.length_cons, List.length_nil]; omega) | (rw [hget_push_lt _ _ _ _ (by omega)]; first | assumption | exact hget_push_one _ _ _ _ (by omega))) only [WW0, WW1, WW2, WW3, WW4, WW5, WW6, WW7, Option.map_some, args0, slotsL, opdsA, List.cons_append, List.nil_append, List.map_cons, List.map_nil, List.append_nil, Option.toList_some, Option.toList_none, Nat.reduceEqDiff, Nat.reduceLT, Nat.reduceAdd, Nat.reduceBEq, Int.reduceAdd, Int.reduceSub, Int.reduceLT, Int.reduceLE, Int.reduceEq, Int.reduceNeg, ↓reduceIte, if_true, if_false, Bool.false_eq_true, Bool.not_true, Bool.not_false, List.length_cons, List.length_nil, List.length_singleton, reduceCtorEq, Int.toNat_natCast, Nat.zero_add, Nat.add_zero, Int.add_sub_cancel, eq_self, List.drop_zero, List.drop_succ_cons, Option.some.injEq, Prod.mk.injEq, mkFnA, Bool.and_true, Bool.true_and, Bool.and_self, t'.v.len]) | (refine does_goI_dec (fun _ => ?_) (fun _ => ?_)) | (refine does_goG_dec (fun _ => ?_) (fun _ => ?_)) | (refine does_goI (fun _ => ?_) (fun _ => ?_)) | (refine does_goG (fun _ => ?_) (fun _ => ?_)))
    exact (decide_no (by omega)).symm
  by_cases h4 : (65 : Int) < rs.length
  · repeat' (first | (simp (disch := first | omega | assumption |  exact callP_old _ _ _ _ _ | exact one_int _ _ | exact one_bool _ | exact one_string _ | exact one_slice _ _ _ | exact one_pointer _ | exact hget_push_one _ _ _ _ (by omega) | (simp only [List.length_map, List.length_set, List.length_replicate, List.length_cons, List.length_nil]; omega) | (rw [hget_push_lt _ _ _ _ (by omega)]; first | assumption | exact hget_push_one _ _ _ _ (by omega))) only [WW0, WW1, WW2, WW3, WW4, WW5, WW6, WW7, Option.map_some, args0, slotsL, opdsA, List.cons_append, List.nil_append, List.map_cons, List.map_nil, List.append_nil, Option.toList_some, Option.toList_none, Nat.reduceEqDiff, Nat.reduceLT, Nat.reduceAdd, Nat.reduceBEq, Int.reduceAdd, Int.reduceSub, Int.reduceLT, Int.reduceLE, Int.reduceEq, Int.reduceNeg, ↓reduceIte, if_true, if_false, Bool.false_eq_true, Bool.not_true, Bool.not_false, List.length_cons, List.length_nil, List.length_singleton, reduceCtorEq, Int.toNat_natCast, Nat.zero_add, Nat.add_zero, Int.add_sub_cancel, eq_self, List.drop_zero, List.drop_succ_cons, Option.some.injEq, Prod.mk.injEq, mkFnA, Bool.and_true, Bool.true_and, Bool.and_self, t'.v.len]) | (refine does_goI_dec (fun _ => ?_) (fun _ => ?_)) | (refine does_goG_dec (fun _ => ?_) (fun _ => ?_)) | (refine does_goI (fun _ => ?_) (fun _ => ?_)) | (refine does_goG (fun _ => ?_) (fun _ => ?_)))
    exact (decide_no (by omega)).symm
  have hc : ∀ i, i < rs.length → (EN w (n + 1)).pcall 29 (rs[i]! :: [.pointer (some ⟨nx, 0, some 0⟩)]) ⟨hpush h nx [⟨[.int .i64 q, vC], 1, false, 24⟩], nx + 1, nx + 1⟩ = some (.bool (decide (¬ (V[i]!.length : Int) = q + 1)), []) := fun i hi =>
    valid1_p w n (hget_push_one _ _ _ _ rfl) (by omega) (t'.r i (by omega)) (t.lr i (by omega))
  repeat' (first | (simp (disch := first | omega | assumption |  exact callP_old _ _ _ _ _ | exact one_int _ _ | exact one_bool _ | exact one_string _ | exact one_slice _ _ _ | exact one_pointer _ | exact hget_push_one _ _ _ _ (by omega) | (simp only [List.length_map, List.length_set, List.length_replicate, List.length_cons, List.length_nil]; omega) | (rw [hget_push_lt _ _ _ _ (by omega)]; first | assumption | exact hget_push_one _ _ _ _ (by omega))) only [WW0, WW1, WW2, WW3, WW4, WW5, WW6, WW7, Option.map_some, args0, slotsL, opdsA, List.cons_append, List.nil_append, List.map_cons, List.map_nil, List.append_nil, Option.toList_some, Option.toList_none, Nat.reduceEqDiff, Nat.reduceLT, Nat.reduceAdd, Nat.reduceBEq, Int.reduceAdd, Int.reduceSub, Int.reduceLT, Int.reduceLE, Int.reduceEq, Int.reduceNeg, ↓reduceIte, if_true, if_false, Bool.false_eq_true, Bool.not_true, Bool.not_false, List.length_cons, List.length_nil, List.length_singleton, reduceCtorEq, Int.toNat_natCast, Nat.zero_add, Nat.add_zero, Int.add_sub_cancel, eq_self, List.drop_zero, List.drop_succ_cons, Option.some.injEq, Prod.mk.injEq, mkFnA, Bool.and_true, Bool.true_and, Bool.and_self, t'.v.len, mkFnA, containsf_p w _ t'.v (by omega) (fun i => decide (¬ (V[i]!.length : Int) = q + 1)) hc]) | (refine does_goI_dec (fun _ => ?_) (fun _ => ?_)) | (refine does_goG_dec (fun _ => ?_) (fun _ => ?_)) | (refine does_goI (fun _ => ?_) (fun _ => ?_)) | (refine does_goG (fun _ => ?_) (fun _ => ?_)))
  rw [Bool.eq_iff_iff, hlen]
  simp only [validS, decide_eq_true_eq, firstP_iff]
  constructor
  · intro hh
    refine ⟨by omega, by omega, by omega, by omega, fun k hk => Decidable.byContradiction fun hn => hh ⟨k, hk, hn⟩⟩
  · rintro ⟨_, _, _, _, h5⟩ ⟨k, h6, h7⟩
    exact h7 (h5 k h6)
theorem wrong1_p {b : Nat} {t : TypeId} {v : Value} {l : List Bool} (hb : hget h b = some ⟨[v], 1, false, t⟩) (hr : Rd (oldOf w) h Value.bool v l) (i : Nat) (hi : i < l.length) :
    (EN w (n + 1)).pcall 21 [.int .i64 i, .pointer (some ⟨b, 0, some 0⟩)] ⟨h, nx, p⟩ = some (.bool l[i]!, []) := by
  refine pcall_eq rfl rfl (Nat.le_of_ble_eq_true rfl) ?_
  repeat' (first | (simp (disch := first | omega | assumption |  exact callP_old _ _ _ _ _ | exact one_int _ _ | exact one_bool _ | exact one_string _ | exact one_slice _ _ _ | exact one_pointer _ | exact hget_push_one _ _ _ _ (by omega) | (simp only [List.length_map, List.length_set, List.length_replicate, List.length_cons, List.length_nil]; omega) | (rw [hget_push_lt _ _ _ _ (by omega)]; first | assumption | exact hget_push_one _ _ _ _ (by omega))) only [WW0, WW1, WW2, WW3, WW4, WW5, WW6, WW7, Option.map_some, args0, slotsL, opdsA, List.cons_append, List.nil_append, List.map_cons, List.map_nil, List.append_nil, Option.toList_some, Option.toList_none, Nat.reduceEqDiff, Nat.reduceLT, Nat.reduceAdd, Nat.reduceBEq, Int.reduceAdd, Int.reduceSub, Int.reduceLT, Int.reduceLE, Int.reduceEq, Int.reduceNeg, ↓reduceIte, if_true, if_false, Bool.false_eq_true, Bool.not_true, Bool.not_false, List.length_cons, List.length_nil, List.length_singleton, reduceCtorEq, Int.toNat_natCast, Nat.zero_add, Nat.add_zero, Int.add_sub_cancel, eq_self, List.drop_zero, List.drop_succ_cons, Option.some.injEq, Prod.mk.injEq, mkFnA, Bool.and_true, Bool.true_and, Bool.and_self, hr.idx, hr.load, hb]) | (refine does_goI_dec (fun _ => ?_) (fun _ => ?_)) | (refine does_goG_dec (fun _ => ?_) (fun _ => ?_)) | (refine does_goI (fun _ => ?_) (fun _ => ?_)) | (refine does_goG (fun _ => ?_) (fun _ => ?_)))
theorem wrong2_p {b c : Nat} {q : Int} {t u : TypeId} (hb : hget h b = some ⟨[.int .i64 q, vC], 1, false, t⟩) (x : Nat) (hc : hget h c = some ⟨[.int .i64 x], 1, false, u⟩) (ht : CB w h nx vC rs V) (i : Nat) (hi : i < V.length) (hx : x < V[i]!.length) :
    (EN w (n + 1)).pcall 22 [.int .i64 i, .pointer (some ⟨b, 0, some 0⟩), .pointer (some ⟨c, 0, some 0⟩)] ⟨h, nx, p⟩ = some (.bool V[i]![x]!, []) := by
  refine pcall_eq rfl rfl (Nat.le_of_ble_eq_true rfl) ?_
  have hlen := ht.len
  have hr := ht.r i hi
  repeat' (first | (simp (disch := first | omega | assumption |  exact callP_old _ _ _ _ _ | exact one_int _ _ | exact one_bool _ | exact one_string _ | exact one_slice _ _ _ | exact one_pointer _ | exact hget_push_one _ _ _ _ (by omega) | (simp only [List.length_map, List.length_set, List.length_replicate, List.length_cons, List.length_nil]; omega) | (rw [hget_push_lt _ _ _ _ (by omega)]; first | assumption | exact hget_push_one _ _ _ _ (by omega))) only [WW0, WW1, WW2, WW3, WW4, WW5, WW6, WW7, Option.map_some, args0, slotsL, opdsA, List.cons_append, List.nil_append, List.map_cons, List.map_nil, List.append_nil, Option.toList_some, Option.toList_none, Nat.reduceEqDiff, Nat.reduceLT, Nat.reduceAdd, Nat.reduceBEq, Int.reduceAdd, Int.reduceSub, Int.reduceLT, Int.reduceLE, Int.reduceEq, Int.reduceNeg, ↓reduceIte, if_true, if_false, Bool.false_eq_true, Bool.not_true, Bool.not_false, List.length_cons, List.length_nil, List.length_singleton, reduceCtorEq, Int.toNat_natCast, Nat.zero_add, Nat.add_zero, Int.add_sub_cancel, eq_self, List.drop_zero, List.drop_succ_cons, Option.some.injEq, Prod.mk.injEq, mkFnA, Bool.and_true, Bool.true_and, Bool.and_self, ht.v.idx, ht.v.load, hr.idx, hr.load, hb, hc]) | (refine does_goI_dec (fun _ => ?_) (fun _ => ?_)) | (refine does_goG_dec (fun _ => ?_) (fun _ => ?_)) | (refine does_goI (fun _ => ?_) (fun _ => ?_)) | (refine does_goG (fun _ => ?_) (fun _ => ?_)))
def colS (V : List (List Bool)) (x k : Nat) : List Bool := (List.range k).map fun y => V[y]![x]!
theorem colS_succ (V : List (List Bool)) (x k : Nat) : colS V x (k + 1) = colS V x k ++ [V[k]![x]!] := by simp [colS, List.range_succ]
theorem column_p (ht : CB w h nx vC rs V) (x : Nat) (hx : ∀ i, i < V.length → x < V[i]!.length) :
    (EN w (n + 1)).pcall 25 [vC, .int .i64 x] ⟨h, nx, p⟩ = some (newV nx V.length, newB 4 1 V.length ((colS V x V.length).map Value.bool)) := by
  refine pcall_eq rfl rfl (Nat.le_of_ble_eq_true rfl) ?_
  have hlen := ht.len
  have hlv := ht.lv
  repeat' (first | (simp (disch := first | omega | assumption |  exact callP_old _ _ _ _ _ | exact one_int _ _ | exact one_bool _ | exact one_string _ | exact one_slice _ _ _ | exact one_pointer _ | exact hget_push_one _ _ _ _ (by omega) | (simp only [List.length_map, List.length_set, List.length_replicate, List.length_cons, List.length_nil]; omega) | (rw [hget_push_lt _ _ _ _ (by omega)]; first | assumption | exact hget_push_one _ _ _ _ (by omega))) only [WW0, WW1, WW2, WW3, WW4, WW5, WW6, WW7, Option.map_some, args0, slotsL, opdsA, List.cons_append, List.nil_append, List.map_cons, List.map_nil, List.append_nil, Option.toList_some, Option.toList_none, Nat.reduceEqDiff, Nat.reduceLT, Nat.reduceAdd, Nat.reduceBEq, Int.reduceAdd, Int.reduceSub, Int.reduceLT, Int.reduceLE, Int.reduceEq, Int.reduceNeg, ↓reduceIte, if_true, if_false, Bool.false_eq_true, Bool.not_true, Bool.not_false, List.length_cons, List.length_nil, List.length_singleton, reduceCtorEq, Int.toNat_natCast, Nat.zero_add, Nat.add_zero, Int.add_sub_cancel, eq_self, List.drop_zero, List.drop_succ_cons, Option.some.injEq, Prod.mk.injEq, mkFnA, Bool.and_true, Bool.true_and, Bool.and_self, ht.v.len]) | (refine does_goI_dec (fun _ => ?_) (fun _ => ?_)) | (refine does_goG_dec (fun _ => ?_) (fun _ => ?_)) | (refine does_goI (fun _ => ?_) (fun _ => ?_)) | (refine does_goG (fun _ => ?_) (fun _ => ?_)))
  refine does_while (fun m fr t => ∃ (k : Nat) (v : Value) (h1 : Heap) (n1 : Nat), m = V.length - k ∧ k ≤ V.length ∧ fr = [(0, vC), (1, .int .i64 x), (5, v), (6, .int .i64 k)] ∧ t = ⟨h1, n1, nx⟩ ∧ HX nx h h1 ∧ nx ≤ n1 ∧ (k = 0 → v = .slice none 0 0) ∧
    Own nx ⟨h1, n1, nx⟩ 4 1 v k ((colS V x k).map Value.bool)) (m := V.length) ?_ ?_ ?_
  · exact ⟨0, _, _, _, by omega, by omega, rfl, rfl, HX.refl _ _, Nat.le_refl _, fun _ => rfl, Own.nil⟩
  · simp (disch := first | omega | assumption |  exact callP_old _ _ _ _ _ | exact one_int _ _ | exact one_bool _ | exact one_string _ | exact one_slice _ _ _ | exact one_pointer _ | exact hget_push_one _ _ _ _ (by omega) | (simp only [List.length_map, List.length_set, List.length_replicate, List.length_cons, List.length_nil]; omega) | (rw [hget_push_lt _ _ _ _ (by omega)]; first | assumption | exact hget_push_one _ _ _ _ (by omega))) only [WW0, WW1, WW2, WW3, WW4, WW5, WW6, WW7, Option.map_some, args0, slotsL, opdsA, List.cons_append, List.nil_append, List.map_cons, List.map_nil, List.append_nil, Option.toList_some, Option.toList_none, Nat.reduceEqDiff, Nat.reduceLT, Nat.reduceAdd, Nat.reduceBEq, Int.reduceAdd, Int.reduceSub, Int.reduceLT, Int.reduceLE, Int.reduceEq, Int.reduceNeg, ↓reduceIte, if_true, if_false, Bool.false_eq_true, Bool.not_true, Bool.not_false, List.length_cons, List.length_nil, List.length_singleton, reduceCtorEq, Int.toNat_natCast, Nat.zero_add, Nat.add_zero, Int.add_sub_cancel, eq_self, List.drop_zero, List.drop_succ_cons, Option.some.injEq, Prod.mk.injEq, mkFnA, Bool.and_true, Bool.true_and, Bool.and_self]
    unfold many; omega
  · rintro m fr tt ⟨k, v, h1, n1, rfl, hk, rfl, rfl, hx1, hn1, hv0, ho⟩
    have ht1 := ht.hx hx1 hn1
    have hb2 := ho.bid2
    have hbd := ho.bid
    by_cases hlt : k < V.length
    · have hr := ht1.r k hlt
      have hxk := hx k hlt
      have hpush := fun c => ho.appRow (E := EN w n) (b := 1) (c := .bool c) (t' := 4) (g := false) (one_bool _) (by omega) (by omega)
      repeat' (first | (simp (disch := first | omega | assumption |  exact callP_old _ _ _ _ _ | exact one_int _ _ | exact one_bool _ | exact one_string _ | exact one_slice _ _ _ | exact one_pointer _ | exact hget_push_one _ _ _ _ (by omega) | (simp only [List.length_map, List.length_set, List.length_replicate, List.length_cons, List.length_nil]; omega) | (rw [hget_push_lt _ _ _ _ (by omega)]; first | assumption | exact hget_push_one _ _ _ _ (by omega))) only [WW0, WW1, WW2, WW3, WW4, WW5, WW6, WW7, Option.map_some, args0, slotsL, opdsA, List.cons_append, List.nil_append, List.map_cons, List.map_nil, List.append_nil, Option.toList_some, Option.toList_none, Nat.reduceEqDiff, Nat.reduceLT, Nat.reduceAdd, Nat.reduceBEq, Int.reduceAdd, Int.reduceSub, Int.reduceLT, Int.reduceLE, Int.reduceEq, Int.reduceNeg, ↓reduceIte, if_true, if_false, Bool.false_eq_true, Bool.not_true, Bool.not_false, List.length_cons, List.length_nil, List.length_singleton, reduceCtorEq, Int.toNat_natCast, Nat.zero_add, Nat.add_zero, Int.add_sub_cancel, eq_self, List.drop_zero, List.drop_succ_cons, Option.some.injEq, Prod.mk.injEq, mkFnA, Bool.and_true, Bool.true_and, Bool.and_self, c25l0, ht1.v.len, ht1.v.idx, ht1.v.load, hr.idx, hr.load, hpush]) | (refine does_goI_dec (fun _ => ?_) (fun _ => ?_)) | (refine does_goG_dec (fun _ => ?_) (fun _ => ?_)) | (refine does_goI (fun _ => ?_) (fun _ => ?_)) | (refine does_goG (fun _ => ?_) (fun _ => ?_)))
      refine ⟨_, ?_, k + 1, _, _, _, rfl, hlt, by simp; rfl, rfl, ?_, ?_, ?_, ?_⟩
      · omega
      · exact ((hx1.push _ hn1).delO (by omega)).push _ (by omega)
      · omega
      · intro h; omega
      · rw [colS_succ, List.map_append]
        exact Own.grown (by simp [colS]) (by omega) (by omega)
    · have : k = V.length := by omega
      subst this
      repeat' (first | (simp (disch := first | omega | assumption |  exact callP_old _ _ _ _ _ | exact one_int _ _ | exact one_bool _ | exact one_string _ | exact one_slice _ _ _ | exact one_pointer _ | exact hget_push_one _ _ _ _ (by omega) | (simp only [List.length_map, List.length_set, List.length_replicate, List.length_cons, List.length_nil]; omega) | (rw [hget_push_lt _ _ _ _ (by omega)]; first | assumption | exact hget_push_one _ _ _ _ (by omega))) only [WW0, WW1, WW2, WW3, WW4, WW5, WW6, WW7, Option.map_some, args0, slotsL, opdsA, List.cons_append, List.nil_append, List.map_cons, List.map_nil, List.append_nil, Option.toList_some, Option.toList_none, Nat.reduceEqDiff, Nat.reduceLT, Nat.reduceAdd, Nat.reduceBEq, Int.reduceAdd, Int.reduceSub, Int.reduceLT, Int.reduceLE, Int.reduceEq, Int.reduceNeg, ↓reduceIte, if_true, if_false, Bool.false_eq_true, Bool.not_true, Bool.not_false, List.length_cons, List.length_nil, List.length_singleton, reduceCtorEq, Int.toNat_natCast, Nat.zero_add, Nat.add_zero, Int.add_sub_cancel, eq_self, List.drop_zero, List.drop_succ_cons, Option.some.injEq, Prod.mk.injEq, mkFnA, Bool.and_true, Bool.true_and, Bool.and_self, c25l0, ht1.v.len]) | (refine does_goI_dec (fun _ => ?_) (fun _ => ?_)) | (refine does_goG_dec (fun _ => ?_) (fun _ => ?_)) | (refine does_goI (fun _ => ?_) (fun _ => ?_)) | (refine does_goG (fun _ => ?_) (fun _ => ?_)))
      exact ho.gc hv0 (idsL_bools _ _)
end
end Go.Proofs.Ytepdkmdcainddaa
namespace Go.Proofs.Ytepdkmdcainddaa
open Go Go.Itp
set_option linter.unusedSimpArgs false
set_option linter.unusedVariables false
set_option maxRecDepth 100000
set_option maxHeartbeats 1000000
attribute [local irreducible] Does

/-- the numbers below a bound that a predicate picks -/
def sel (pr : Nat → Bool) : Nat → List Int
  | 0 => []
  | k + 1 => if pr k then sel pr k ++ [(k : Int)] else sel pr k
theorem sel_le (pr : Nat → Bool) : ∀ k, (sel pr k).length ≤ k
  | 0 => Nat.le_refl _
  | k + 1 => by
    have := sel_le pr k
    simp only [sel]; split <;> simp <;> omega
theorem sel_mem (pr : Nat → Bool) : ∀ k, ∀ z ∈ sel pr k, 0 ≤ z ∧ z < k
  | 0, z, h => by simp [sel] at h
  | k + 1, z, h => by
    have ih := sel_mem pr k z
    simp only [sel] at h
    split at h
    · rcases List.mem_append.1 h with h | h
      · have := ih h; omega
      · simp at h; omega
    · have := ih h; omega
def cardP (V : List (List Bool)) (y : Nat) : Bool := oddTo (fun x => V[y]![x]!) V[y]!.length
def placeP (V : List (List Bool)) (x : Nat) : Bool := oddTo (fun y => V[y]![x]!) V.length
def wrongE (q : Int) (V : List (List Bool)) : Int := if validS q V then 0 else 8
def wrongA (q : Int) (V : List (List Bool)) : List Int := if validS q V then sel (cardP V) V.length else []
def wrongB (q : Int) (V : List (List Bool)) : List Int := if validS q V then sel (placeP V) (q + 1).toNat else []
theorem valid_out {q : Int} {V : List (List Bool)} (h : validS q V = true) : 1 ≤ q ∧ q ≤ 40 ∧ 2 ≤ V.length ∧ V.length ≤ 65 ∧ ∀ k, k < V.length → (V[k]!.length : Int) = q + 1 := of_decide_eq_true h
theorem _root_.Go.Itp.Own.rdI {lo : Nat} {s : St} {t : TypeId} {v : Value} {n : Nat} {l : List Int} {old : Nat → Nat → Option Value} (o : Own lo s t 1 v n (l.map vI)) (hn : n = l.length) : Rd old s.heap vI v l := by
  subst hn; exact o.rd
/-- a list that is not empty lies in a new block -/
def FS (nx : Nat) (a : Value) (l : List Int) : Prop := l ≠ [] → ∃ i c, a = .slice (some ⟨i, 0, some 0⟩) l.length c ∧ nx ≤ i
theorem FS.nil {nx : Nat} {a : Value} : FS nx a [] := fun h => absurd rfl h
theorem _root_.Go.Itp.Own.fs {lo nx : Nat} {s : St} {t : TypeId} {v : Value} {l : List Int} (o : Own lo s t 1 v l.length (l.map vI)) (h : nx ≤ lo) : FS nx v l := by
  intro hn
  rcases o.is with ⟨_, h1, _⟩ | ⟨i, hi, _, _, ⟨_, h1, _⟩ | ⟨h1, _⟩⟩
  · exact absurd (List.length_eq_zero_iff.1 h1) hn
  · exact absurd (List.length_eq_zero_iff.1 h1) hn
  · exact ⟨i, _, h1, by omega⟩
section
variable (w : World) (n : Nat) {vC : Value} {rs : List Value} {V : List (List Bool)} {h : Heap} {nx p : Nat}
theorem wrong_w (t : CB w h nx vC rs V) (q : Int) (hq : -9223372036854775808 ≤ q ∧ q ≤ 9223372036854775807) (hp : p ≤ nx) :
    ∃ (a b : Value) (h' : Heap) (n' : Nat), (EN w (n + 5)).wcall 8 [.agg [.int .i64 q, vC].toArray] ⟨h, nx, p⟩ = some (.tuple [a, b, .int .i64 (wrongE q V)].toArray, ⟨h', n', p⟩) ∧
      HX nx h h' ∧ nx ≤ n' ∧ Rd (oldOf w) h' vI a (wrongA q V) ∧ Rd (oldOf w) h' vI b (wrongB q V) ∧ bidN a ≤ n' ∧ bidN b ≤ n' ∧ FS nx a (wrongA q V) ∧ FS nx b (wrongB q V) := by
  have key : ∃ v s', (EN w (n + 5)).wcall 8 [.agg [.int .i64 q, vC].toArray] ⟨h, nx, p⟩ = some (v, s') ∧ (∃ (a b : Value) (h' : Heap) (n' : Nat), v = .tuple [a, b, .int .i64 (wrongE q V)].toArray ∧ s' = ⟨h', n', p⟩ ∧
      HX nx h h' ∧ nx ≤ n' ∧ Rd (oldOf w) h' vI a (wrongA q V) ∧ Rd (oldOf w) h' vI b (wrongB q V) ∧ bidN a ≤ n' ∧ bidN b ≤ n' ∧ FS nx a (wrongA q V) ∧ FS nx b (wrongB q V)) := by
    refine wcall_ex rfl (Nat.le_of_ble_eq_true rfl) ?_
    have t' := t.push [⟨[.int .i64 q, vC], 1, false, 24⟩] (nx' := nx + 1) (by omega)
    have hlen := t.len
    have hlv := t.lv
    have hx0 : HX nx h (hpush h nx [⟨[.int .i64 q, vC], 1, false, 24⟩]) := (HX.refl _ _).push _ (Nat.le_refl _)
    cases hv : validS q V
    · repeat' (first | (simp (disch := first | omega | assumption |  exact callP_old _ _ _ _ _ | exact one_int _ _ | exact one_bool _ | exact one_string _ | exact one_slice _ _ _ | exact one_pointer _ | exact hget_push_one _ _ _ _ (by omega) | (simp only [List.length_map, List.length_set, List.length_replicate, List.length_cons, List.length_nil]; omega) | (rw [hget_push_lt _ _ _ _ (by omega)]; first | assumption | exact hget_push_one _ _ _ _ (by omega))) only [WW0, WW1, WW2, WW3, WW4, WW5, WW6, WW7, Option.map_some, args0, slotsL, opdsA, List.cons_append, List.nil_append, List.map_cons, List.map_nil, List.append_nil, Option.toList_some, Option.toList_none, Nat.reduceEqDiff, Nat.reduceLT, Nat.reduceAdd, Nat.reduceBEq, Int.reduceAdd, Int.reduceSub, Int.reduceLT, Int.reduceLE, Int.reduceEq, Int.reduceNeg, ↓reduceIte, if_true, if_false, Bool.false_eq_true, Bool.not_true, Bool.not_false, List.length_cons, List.length_nil, List.length_singleton, reduceCtorEq, Int.toNat_natCast, Nat.zero_add, Nat.add_zero, Int.add_sub_cancel, eq_self, List.drop_zero, List.drop_succ_cons, Option.some.injEq, Prod.mk.injEq, mkFnA, Bool.and_true, Bool.true_and, Bool.and_self, valid_p w n t' q hq, hv]) | (refine does_goI_dec (fun _ => ?_) (fun _ => ?_)) | (refine does_goG_dec (fun _ => ?_) (fun _ => ?_)) | (refine does_goI (fun _ => ?_) (fun _ => ?_)) | (refine does_goG (fun _ => ?_) (fun _ => ?_)))
      refine ⟨.slice none 0 0, .slice none 0 0, _, _, by simp [wrongE, hv, tupleOf], rfl, hx0, by omega, ?_, ?_, ?_, ?_, ?_, ?_⟩
      · simp only [wrongA, hv]; exact Rd.nil
      · simp only [wrongB, hv]; exact Rd.nil
      · simp [bidN, bidA]
      · simp [bidN, bidA]
      · simp only [wrongA, hv]; exact FS.nil
      · simp only [wrongB, hv]; exact FS.nil
    obtain ⟨v1, v2, v3, v4, v5⟩ := valid_out hv
    repeat' (first | (simp (disch := first | omega | assumption |  exact callP_old _ _ _ _ _ | exact one_int _ _ | exact one_bool _ | exact one_string _ | exact one_slice _ _ _ | exact one_pointer _ | exact hget_push_one _ _ _ _ (by omega) | (simp only [List.length_map, List.length_set, List.length_replicate, List.length_cons, List.length_nil]; omega) | (rw [hget_push_lt _ _ _ _ (by omega)]; first | assumption | exact hget_push_one _ _ _ _ (by omega))) only [WW0, WW1, WW2, WW3, WW4, WW5, WW6, WW7, Option.map_some, args0, slotsL, opdsA, List.cons_append, List.nil_append, List.map_cons, List.map_nil, List.append_nil, Option.toList_some, Option.toList_none, Nat.reduceEqDiff, Nat.reduceLT, Nat.reduceAdd, Nat.reduceBEq, Int.reduceAdd, Int.reduceSub, Int.reduceLT, Int.reduceLE, Int.reduceEq, Int.reduceNeg, ↓reduceIte, if_true, if_false, Bool.false_eq_true, Bool.not_true, Bool.not_false, List.length_cons, List.length_nil, List.length_singleton, reduceCtorEq, Int.toNat_natCast, Nat.zero_add, Nat.add_zero, Int.add_sub_cancel, eq_self, List.drop_zero, List.drop_succ_cons, Option.some.injEq, Prod.mk.injEq, mkFnA, Bool.and_true, Bool.true_and, Bool.and_self, valid_p w n t' q hq, hv, t'.v.len]) | (refine does_goI_dec (fun _ => ?_) (fun _ => ?_)) | (refine does_goG_dec (fun _ => ?_) (fun _ => ?_)) | (refine does_goI (fun _ => ?_) (fun _ => ?_)) | (refine does_goG (fun _ => ?_) (fun _ => ?_)))
    refine does_while (fun m fr t => ∃ (k : Nat) (v : Value) (h1 : Heap) (n1 : Nat), m = V.length - k ∧ k ≤ V.length ∧ fr = [(1, .pointer (some ⟨nx, 0, some 0⟩)), (2, v), (3, .slice none 0 0), (12, vC), (13, .int .i64 rs.length), (14, .int .i64 k)] ∧ t = ⟨h1, n1, p⟩ ∧
      HX (nx + 1) (hpush h nx [⟨[.int .i64 q, vC], 1, false, 24⟩]) h1 ∧ nx + 1 ≤ n1 ∧ Own (nx + 1) ⟨h1, n1, p⟩ 3 1 v (sel (cardP V) k).length ((sel (cardP V) k).map vI)) (m := V.length) ?_ ?_ ?_
    · exact ⟨0, _, _, _, by omega, by omega, rfl, rfl, HX.refl _ _, Nat.le_refl _, Own.nil⟩
    · simp (disch := first | omega | assumption |  exact callP_old _ _ _ _ _ | exact one_int _ _ | exact one_bool _ | exact one_string _ | exact one_slice _ _ _ | exact one_pointer _ | exact hget_push_one _ _ _ _ (by omega) | (simp only [List.length_map, List.length_set, List.length_replicate, List.length_cons, List.length_nil]; omega) | (rw [hget_push_lt _ _ _ _ (by omega)]; first | assumption | exact hget_push_one _ _ _ _ (by omega))) only [WW0, WW1, WW2, WW3, WW4, WW5, WW6, WW7, Option.map_some, args0, slotsL, opdsA, List.cons_append, List.nil_append, List.map_cons, List.map_nil, List.append_nil, Option.toList_some, Option.toList_none, Nat.reduceEqDiff, Nat.reduceLT, Nat.reduceAdd, Nat.reduceBEq, Int.reduceAdd, Int.reduceSub, Int.reduceLT, Int.reduceLE, Int.reduceEq, Int.reduceNeg, ↓reduceIte, if_true, if_false, Bool.false_eq_true, Bool.not_true, Bool.not_false, List.length_cons, List.length_nil, List.length_singleton, reduceCtorEq, Int.toNat_natCast, Nat.zero_add, Nat.add_zero, Int.add_sub_cancel, eq_self, List.drop_zero, List.drop_succ_cons, Option.some.injEq, Prod.mk.injEq, mkFnA, Bool.and_true, Bool.true_and, Bool.and_self]
      unfold many; omega
    · rintro m fr tt ⟨k, v, h1, n1, rfl, hk, rfl, rfl, hx1, hn1, ho⟩
      have ht1 := t'.hx hx1 hn1
      have hb2 := ho.bid2
      have hbd := ho.bid
      have hsl := sel_le (cardP V) k
      by_cases hlt : k < V.length
      · have hr := ht1.r k hlt
        have hone := hr.one
        have hrep : (List.replicate 1 (Value.slice none 0 0)).set 0 rs[k]! = [rs[k]!] := rfl
        have hbr := ht1.br k hlt
        obtain ⟨H2, hH2⟩ : ∃ H2, H2 = hset (hpush h1 n1 [⟨List.replicate 1 (.slice none 0 0), 1, false, 27⟩]) n1 ⟨[rs[k]!], 1, false, 27⟩ := ⟨_, rfl⟩
        have hx2 : HX (nx + 1) (hpush h nx [⟨[.int .i64 q, vC], 1, false, 24⟩]) H2 := by subst hH2; exact (hx1.push _ hn1).set _ hn1
        have hg : hget H2 n1 = some ⟨[rs[k]!], 1, false, 27⟩ := by subst hH2; rw [hget_set_self, hget_push_one _ _ _ _ rfl]; rfl
        have hr2 : Rd (oldOf w) H2 Value.bool rs[k]! V[k]! := by subst hH2; exact (hr.push _ hbr).set _ (by omega)
        have hodd : (EN w (n + 4)).pcall 20 [.int .i64 V[k]!.length, .func (.func 21) #[] #[.pointer (some ⟨n1, 0, some 0⟩)]] ⟨H2, n1 + 1, p⟩ = some (.bool (cardP V k), []) :=
          odd_p w (n + 3) (f := 21) (caps := [.pointer (some ⟨n1, 0, some 0⟩)]) V[k]!.length (fun x => V[k]![x]!) (t.lr k hlt) (fun i hi => wrong1_p w (n + 2) hg hr2 i hi)
        have ho2 : Own (nx + 1) ⟨H2, n1 + 1, p⟩ 3 1 v (sel (cardP V) k).length ((sel (cardP V) k).map vI) := ho.to (by simp) rfl fun i hi => by
          simp only at hbd
          subst hH2
          rw [hget_set_ne _ _ _ _ (by omega), hget_push_lt _ _ _ _ (by omega)]
        have happ := ho2.appRow (E := EN w (n + 4)) (b := 8) (c := .int .i64 k) (t' := 3) (g := false) (one_int _ _) (by omega) (by omega)
        cases hcp : cardP V k
        · rw [hcp] at hodd
          repeat' (first | (simp (disch := first | omega | assumption |  exact callP_old _ _ _ _ _ | exact one_int _ _ | exact one_bool _ | exact one_string _ | exact one_slice _ _ _ | exact one_pointer _ | exact hget_push_one _ _ _ _ (by omega) | (simp only [List.length_map, List.length_set, List.length_replicate, List.length_cons, List.length_nil]; omega) | (rw [hget_push_lt _ _ _ _ (by omega)]; first | assumption | exact hget_push_one _ _ _ _ (by omega))) only [WW0, WW1, WW2, WW3, WW4, WW5, WW6, WW7, Option.map_some, args0, slotsL, opdsA, List.cons_append, List.nil_append, List.map_cons, List.map_nil, List.append_nil, Option.toList_some, Option.toList_none, Nat.reduceEqDiff, Nat.reduceLT, Nat.reduceAdd, Nat.reduceBEq, Int.reduceAdd, Int.reduceSub, Int.reduceLT, Int.reduceLE, Int.reduceEq, Int.reduceNeg, ↓reduceIte, if_true, if_false, Bool.false_eq_true, Bool.not_true, Bool.not_false, List.length_cons, List.length_nil, List.length_singleton, reduceCtorEq, Int.toNat_natCast, Nat.zero_add, Nat.add_zero, Int.add_sub_cancel, eq_self, List.drop_zero, List.drop_succ_cons, Option.some.injEq, Prod.mk.injEq, mkFnA, Bool.and_true, Bool.true_and, Bool.and_self, c8l1, ht1.v.idx, ht1.v.load, hrep, hr.len, mkFnA, ← hH2, hg, hodd]) | (refine does_goI_dec (fun _ => ?_) (fun _ => ?_)) | (refine does_goG_dec (fun _ => ?_) (fun _ => ?_)) | (refine does_goI (fun _ => ?_) (fun _ => ?_)) | (refine does_goG (fun _ => ?_) (fun _ => ?_)))
          refine ⟨_, ?_, k + 1, _, _, _, rfl, hlt, by simp; rfl, rfl, hx2, by omega, ?_⟩
          · omega
          · simpa [sel, hcp] using ho2
        · rw [hcp] at hodd
          repeat' (first | (simp (disch := first | omega | assumption |  exact callP_old _ _ _ _ _ | exact one_int _ _ | exact one_bool _ | exact one_string _ | exact one_slice _ _ _ | exact one_pointer _ | exact hget_push_one _ _ _ _ (by omega) | (simp only [List.length_map, List.length_set, List.length_replicate, List.length_cons, List.length_nil]; omega) | (rw [hget_push_lt _ _ _ _ (by omega)]; first | assumption | exact hget_push_one _ _ _ _ (by omega))) only [WW0, WW1, WW2, WW3, WW4, WW5, WW6, WW7, Option.map_some, args0, slotsL, opdsA, List.cons_append, List.nil_append, List.map_cons, List.map_nil, List.append_nil, Option.toList_some, Option.toList_none, Nat.reduceEqDiff, Nat.reduceLT, Nat.reduceAdd, Nat.reduceBEq, Int.reduceAdd, Int.reduceSub, Int.reduceLT, Int.reduceLE, Int.reduceEq, Int.reduceNeg, ↓reduceIte, if_true, if_false, Bool.false_eq_true, Bool.not_true, Bool.not_false, List.length_cons, List.length_nil, List.length_singleton, reduceCtorEq, Int.toNat_natCast, Nat.zero_add, Nat.add_zero, Int.add_sub_cancel, eq_self, List.drop_zero, List.drop_succ_cons, Option.some.injEq, Prod.mk.injEq, mkFnA, Bool.and_true, Bool.true_and, Bool.and_self, c8l1, ht1.v.idx, ht1.v.load, hrep, hr.len, mkFnA, ← hH2, hg, hodd, happ]) | (refine does_goI_dec (fun _ => ?_) (fun _ => ?_)) | (refine does_goG_dec (fun _ => ?_) (fun _ => ?_)) | (refine does_goI (fun _ => ?_) (fun _ => ?_)) | (refine does_goG (fun _ => ?_) (fun _ => ?_)))
          refine ⟨_, ?_, k + 1, _, _, _, rfl, hlt, by simp; rfl, rfl, ((hx2.push _ (by omega)).delO (by omega)).push _ (by omega), by omega, ?_⟩
          · omega
          · have e : sel (cardP V) (k + 1) = sel (cardP V) k ++ [(k : Int)] := by simp [sel, hcp]
            rw [e, List.map_append, List.length_append]
            exact Own.grown (by simp) (by omega) (by omega)
      · have : k = V.length := by omega
        subst this
        have hbox : hget h1 nx = some ⟨[.int .i64 q, vC], 1, false, 24⟩ := by rw [hx1 nx (by omega)]; exact hget_push_one _ _ _ _ rfl
        have hrA := ho.rdI (old := oldOf w) rfl
        simp only at hbd
        repeat' (first | (simp (disch := first | omega | assumption |  exact callP_old _ _ _ _ _ | exact one_int _ _ | exact one_bool _ | exact one_string _ | exact one_slice _ _ _ | exact one_pointer _ | exact hget_push_one _ _ _ _ (by omega) | (simp only [List.length_map, List.length_set, List.length_replicate, List.length_cons, List.length_nil]; omega) | (rw [hget_push_lt _ _ _ _ (by omega)]; first | assumption | exact hget_push_one _ _ _ _ (by omega))) only [WW0, WW1, WW2, WW3, WW4, WW5, WW6, WW7, Option.map_some, args0, slotsL, opdsA, List.cons_append, List.nil_append, List.map_cons, List.map_nil, List.append_nil, Option.toList_some, Option.toList_none, Nat.reduceEqDiff, Nat.reduceLT, Nat.reduceAdd, Nat.reduceBEq, Int.reduceAdd, Int.reduceSub, Int.reduceLT, Int.reduceLE, Int.reduceEq, Int.reduceNeg, ↓reduceIte, if_true, if_false, Bool.false_eq_true, Bool.not_true, Bool.not_false, List.length_cons, List.length_nil, List.length_singleton, reduceCtorEq, Int.toNat_natCast, Nat.zero_add, Nat.add_zero, Int.add_sub_cancel, eq_self, List.drop_zero, List.drop_succ_cons, Option.some.injEq, Prod.mk.injEq, mkFnA, Bool.and_true, Bool.true_and, Bool.and_self, c8l1, hbox]) | (refine does_goI_dec (fun _ => ?_) (fun _ => ?_)) | (refine does_goG_dec (fun _ => ?_) (fun _ => ?_)) | (refine does_goI (fun _ => ?_) (fun _ => ?_)) | (refine does_goG (fun _ => ?_) (fun _ => ?_)))
        refine does_while (fun m fr t => ∃ (k : Nat) (u : Value) (h2 : Heap) (n2 : Nat), m = (q + 1).toNat - k ∧ k ≤ (q + 1).toNat ∧ fr = [(1, .pointer (some ⟨nx, 0, some 0⟩)), (2, v), (3, u), (30, .int .i64 (q + 1)), (31, .int .i64 k)] ∧ t = ⟨h2, n2, p⟩ ∧
          HX n1 h1 h2 ∧ n1 ≤ n2 ∧ Own n1 ⟨h2, n2, p⟩ 3 1 u (sel (placeP V) k).length ((sel (placeP V) k).map vI)) (m := (q + 1).toNat) ?_ ?_ ?_
        · exact ⟨0, _, _, _, by omega, by omega, rfl, rfl, HX.refl _ _, Nat.le_refl _, Own.nil⟩
        · simp (disch := first | omega | assumption |  exact callP_old _ _ _ _ _ | exact one_int _ _ | exact one_bool _ | exact one_string _ | exact one_slice _ _ _ | exact one_pointer _ | exact hget_push_one _ _ _ _ (by omega) | (simp only [List.length_map, List.length_set, List.length_replicate, List.length_cons, List.length_nil]; omega) | (rw [hget_push_lt _ _ _ _ (by omega)]; first | assumption | exact hget_push_one _ _ _ _ (by omega))) only [WW0, WW1, WW2, WW3, WW4, WW5, WW6, WW7, Option.map_some, args0, slotsL, opdsA, List.cons_append, List.nil_append, List.map_cons, List.map_nil, List.append_nil, Option.toList_some, Option.toList_none, Nat.reduceEqDiff, Nat.reduceLT, Nat.reduceAdd, Nat.reduceBEq, Int.reduceAdd, Int.reduceSub, Int.reduceLT, Int.reduceLE, Int.reduceEq, Int.reduceNeg, ↓reduceIte, if_true, if_false, Bool.false_eq_true, Bool.not_true, Bool.not_false, List.length_cons, List.length_nil, List.length_singleton, reduceCtorEq, Int.toNat_natCast, Nat.zero_add, Nat.add_zero, Int.add_sub_cancel, eq_self, List.drop_zero, List.drop_succ_cons, Option.some.injEq, Prod.mk.injEq, mkFnA, Bool.and_true, Bool.true_and, Bool.and_self]
          unfold many; omega
        · rintro m fr tt ⟨k, u, h2, n2, rfl, hk, rfl, rfl, hy1, hm1, hu⟩
          have ht2 := ht1.hx hy1 hm1
          have hb2 := hu.bid2
          have hbd2 := hu.bid
          simp only at hbd2
          have hsl := sel_le (placeP V) k
          have hbox2 : hget h2 nx = some ⟨[.int .i64 q, vC], 1, false, 24⟩ := by rw [hy1 nx (by omega)]; exact hbox
          by_cases hlt : k < (q + 1).toNat
          · have hlt' : (k : Int) < q + 1 := by omega
            obtain ⟨H3, hH3⟩ : ∃ H3, H3 = hset (hpush h2 n2 [⟨((List.replicate 1 (0 : Int)).map vI), 1, false, 3⟩]) n2 ⟨(((List.replicate 1 (0 : Int)).set 0 k).map vI), 1, false, 3⟩ := ⟨_, rfl⟩
            have hx3 : HX n1 h1 H3 := by subst hH3; exact (hy1.push _ hm1).set _ hm1
            have hg : hget H3 n2 = some ⟨[.int .i64 k], 1, false, 3⟩ := by subst hH3; rw [hget_set_self, hget_push_one _ _ _ _ rfl]; rfl
            have hbox3 : hget H3 nx = some ⟨[.int .i64 q, vC], 1, false, 24⟩ := by rw [hx3 nx (by omega)]; exact hbox
            have ht3 : CB w H3 (n2 + 1) vC rs V := ht1.hx hx3 (by omega)
            have hodd : (EN w (n + 4)).pcall 20 [.int .i64 rs.length, .func (.func 22) #[] #[.pointer (some ⟨nx, 0, some 0⟩), .pointer (some ⟨n2, 0, some 0⟩)]] ⟨H3, n2 + 1, p⟩ = some (.bool (placeP V k), []) := by
              rw [hlen]
              exact odd_p w (n + 3) (f := 22) (caps := [.pointer (some ⟨nx, 0, some 0⟩), .pointer (some ⟨n2, 0, some 0⟩)]) V.length (fun y => V[y]![k]!) (by omega) (fun i hi => wrong2_p w (n + 2) hbox3 k hg ht3 i hi (by have := v5 i hi; omega))
            have hu3 : Own n1 ⟨H3, n2 + 1, p⟩ 3 1 u (sel (placeP V) k).length ((sel (placeP V) k).map vI) := hu.to (by simp) rfl fun i hi => by
              subst hH3
              rw [hget_set_ne _ _ _ _ (by omega), hget_push_lt _ _ _ _ (by omega)]
            have happ := hu3.appRow (E := EN w (n + 4)) (b := 8) (c := .int .i64 k) (t' := 3) (g := false) (one_int _ _) (by omega) (by omega)
            cases hcp : placeP V k
            · rw [hcp] at hodd
              repeat' (first | (simp (disch := first | omega | assumption |  exact callP_old _ _ _ _ _ | exact one_int _ _ | exact one_bool _ | exact one_string _ | exact one_slice _ _ _ | exact one_pointer _ | exact hget_push_one _ _ _ _ (by omega) | (simp only [List.length_map, List.length_set, List.length_replicate, List.length_cons, List.length_nil]; omega) | (rw [hget_push_lt _ _ _ _ (by omega)]; first | assumption | exact hget_push_one _ _ _ _ (by omega))) only [WW0, WW1, WW2, WW3, WW4, WW5, WW6, WW7, Option.map_some, args0, slotsL, opdsA, List.cons_append, List.nil_append, List.map_cons, List.map_nil, List.append_nil, Option.toList_some, Option.toList_none, Nat.reduceEqDiff, Nat.reduceLT, Nat.reduceAdd, Nat.reduceBEq, Int.reduceAdd, Int.reduceSub, Int.reduceLT, Int.reduceLE, Int.reduceEq, Int.reduceNeg, ↓reduceIte, if_true, if_false, Bool.false_eq_true, Bool.not_true, Bool.not_false, List.length_cons, List.length_nil, List.length_singleton, reduceCtorEq, Int.toNat_natCast, Nat.zero_add, Nat.add_zero, Int.add_sub_cancel, eq_self, List.drop_zero, List.drop_succ_cons, Option.some.injEq, Prod.mk.injEq, mkFnA, Bool.and_true, Bool.true_and, Bool.and_self, c8l0, hbox2, hbox3, hg, ht3.v.len, mkFnA, ← hH3, hodd]) | (refine does_goI_dec (fun _ => ?_) (fun _ => ?_)) | (refine does_goG_dec (fun _ => ?_) (fun _ => ?_)) | (refine does_goI (fun _ => ?_) (fun _ => ?_)) | (refine does_goG (fun _ => ?_) (fun _ => ?_)))
              refine ⟨_, ?_, k + 1, _, _, _, rfl, hlt, by simp; rfl, rfl, hx3, by omega, ?_⟩
              · omega
              · simpa [sel, hcp] using hu3
            · rw [hcp] at hodd
              repeat' (first | (simp (disch := first | omega | assumption |  exact callP_old _ _ _ _ _ | exact one_int _ _ | exact one_bool _ | exact one_string _ | exact one_slice _ _ _ | exact one_pointer _ | exact hget_push_one _ _ _ _ (by omega) | (simp only [List.length_map, List.length_set, List.length_replicate, List.length_cons, List.length_nil]; omega) | (rw [hget_push_lt _ _ _ _ (by omega)]; first | assumption | exact hget_push_one _ _ _ _ (by omega))) only [WW0, WW1, WW2, WW3, WW4, WW5, WW6, WW7, Option.map_some, args0, slotsL, opdsA, List.cons_append, List.nil_append, List.map_cons, List.map_nil, List.append_nil, Option.toList_some, Option.toList_none, Nat.reduceEqDiff, Nat.reduceLT, Nat.reduceAdd, Nat.reduceBEq, Int.reduceAdd, Int.reduceSub, Int.reduceLT, Int.reduceLE, Int.reduceEq, Int.reduceNeg, ↓reduceIte, if_true, if_false, Bool.false_eq_true, Bool.not_true, Bool.not_false, List.length_cons, List.length_nil, List.length_singleton, reduceCtorEq, Int.toNat_natCast, Nat.zero_add, Nat.add_zero, Int.add_sub_cancel, eq_self, List.drop_zero, List.drop_succ_cons, Option.some.injEq, Prod.mk.injEq, mkFnA, Bool.and_true, Bool.true_and, Bool.and_self, c8l0, hbox2, hbox3, hg, ht3.v.len, mkFnA, ← hH3, hodd, happ]) | (refine does_goI_dec (fun _ => ?_) (fun _ => ?_)) | (refine does_goG_dec (fun _ => ?_) (fun _ => ?_)) | (refine does_goI (fun _ => ?_) (fun _ => ?_)) | (refine does_goG (fun _ => ?_) (fun _ => ?_)))
              refine ⟨_, ?_, k + 1, _, _, _, rfl, hlt, by simp; rfl, rfl, ((hx3.push _ (by omega)).delO (by omega)).push _ (by omega), by omega, ?_⟩
              · omega
              · have e : sel (placeP V) (k + 1) = sel (placeP V) k ++ [(k : Int)] := by simp [sel, hcp]
                rw [e, List.map_append, List.length_append]
                exact Own.grown (by simp) (by omega) (by omega)
          · have : k = (q + 1).toNat := by omega
            subst this
            have hrB := hu.rdI (old := oldOf w) rfl
            repeat' (first | (simp (disch := first | omega | assumption |  exact callP_old _ _ _ _ _ | exact one_int _ _ | exact one_bool _ | exact one_string _ | exact one_slice _ _ _ | exact one_pointer _ | exact hget_push_one _ _ _ _ (by omega) | (simp only [List.length_map, List.length_set, List.length_replicate, List.length_cons, List.length_nil]; omega) | (rw [hget_push_lt _ _ _ _ (by omega)]; first | assumption | exact hget_push_one _ _ _ _ (by omega))) only [WW0, WW1, WW2, WW3, WW4, WW5, WW6, WW7, Option.map_some, args0, slotsL, opdsA, List.cons_append, List.nil_append, List.map_cons, List.map_nil, List.append_nil, Option.toList_some, Option.toList_none, Nat.reduceEqDiff, Nat.reduceLT, Nat.reduceAdd, Nat.reduceBEq, Int.reduceAdd, Int.reduceSub, Int.reduceLT, Int.reduceLE, Int.reduceEq, Int.reduceNeg, ↓reduceIte, if_true, if_false, Bool.false_eq_true, Bool.not_true, Bool.not_false, List.length_cons, List.length_nil, List.length_singleton, reduceCtorEq, Int.toNat_natCast, Nat.zero_add, Nat.add_zero, Int.add_sub_cancel, eq_self, List.drop_zero, List.drop_succ_cons, Option.some.injEq, Prod.mk.injEq, mkFnA, Bool.and_true, Bool.true_and, Bool.and_self, c8l0]) | (refine does_goI_dec (fun _ => ?_) (fun _ => ?_)) | (refine does_goG_dec (fun _ => ?_) (fun _ => ?_)) | (refine does_goI (fun _ => ?_) (fun _ => ?_)) | (refine does_goG (fun _ => ?_) (fun _ => ?_)))
            refine ⟨_, _, _, _, by simp [wrongE, hv, tupleOf]; exact ⟨rfl, rfl⟩, rfl, hx0.trans ((hx1.trans hy1 (by omega))) (by omega), by omega, ?_, ?_, ?_, ?_, ?_, ?_⟩
            · simp only [wrongA, hv, if_true]; exact hrA.hx hy1 hbd
            · simp only [wrongB, hv, if_true]; exact hrB
            · omega
            · exact hbd2
            · simp only [wrongA, hv, if_true]; exact ho.fs (by omega)
            · simp only [wrongB, hv, if_true]; exact hu.fs (by omega)
  obtain ⟨v, s', hc, a, b, h', n', rfl, rfl, hq⟩ := key
  exact ⟨a, b, h', n', hc, hq⟩
end
end Go.Proofs.Ytepdkmdcainddaa
namespace Go.Proofs.Ytepdkmdcainddaa
open Go Go.Itp
set_option linter.unusedSimpArgs false
set_option linter.unusedVariables false
set_option maxRecDepth 100000
set_option maxHeartbeats 1000000
attribute [local irreducible] Does

theorem oddTo_congr {p q : Nat → Bool} : ∀ k, (∀ i, i < k → p i = q i) → oddTo p k = oddTo q k
  | 0, _ => rfl
  | k + 1, h => by rw [oddTo, oddTo, oddTo_congr k (fun i hi => h i (by omega)), h k (by omega)]
theorem colS_len (V : List (List Bool)) (x k : Nat) : (colS V x k).length = k := by simp [colS]
theorem colS_get (V : List (List Bool)) (x k i : Nat) (hi : i < k) : (colS V x k)[i]! = V[i]![x]! := by
  rw [getElem!_pos (colS V x k) i (by rw [colS_len]; exact hi)]; simp [colS]
theorem card_odd (V : List (List Bool)) (y : Nat) : cardP V y = decide ((pegsTo V[y]! V[y]!.length : Int) % 2 = 1) := (pegs_odd _ _).symm
theorem place_odd (V : List (List Bool)) (x : Nat) : placeP V x = decide ((pegsTo (colS V x V.length) (colS V x V.length).length : Int) % 2 = 1) := by
  rw [pegs_odd, colS_len]
  exact oddTo_congr _ fun i hi => (colS_get V x _ i hi).symm
section
variable (w : World) (n : Nat) {vC : Value} {rs : List Value} {V : List (List Bool)} {h : Heap} {nx p : Nat}
theorem rwrong_w (t : CB w h nx vC rs V) (q : Int) (hq : -9223372036854775808 ≤ q ∧ q ≤ 9223372036854775807) (hp : p ≤ nx) :
    ∃ (a b : Value) (h' : Heap) (n' : Nat), (EN w (n + 5)).wcall 9 [.agg [.int .i64 q, vC].toArray] ⟨h, nx, p⟩ = some (.tuple [a, b, .int .i64 (wrongE q V)].toArray, ⟨h', n', p⟩) ∧
      HX nx h h' ∧ nx ≤ n' ∧ Rd (oldOf w) h' vI a (wrongA q V) ∧ Rd (oldOf w) h' vI b (wrongB q V) ∧ bidN a ≤ n' ∧ bidN b ≤ n' ∧ FS nx a (wrongA q V) ∧ FS nx b (wrongB q V) := by
  have key : ∃ v s', (EN w (n + 5)).wcall 9 [.agg [.int .i64 q, vC].toArray] ⟨h, nx, p⟩ = some (v, s') ∧ (∃ (a b : Value) (h' : Heap) (n' : Nat), v = .tuple [a, b, .int .i64 (wrongE q V)].toArray ∧ s' = ⟨h', n', p⟩ ∧
      HX nx h h' ∧ nx ≤ n' ∧ Rd (oldOf w) h' vI a (wrongA q V) ∧ Rd (oldOf w) h' vI b (wrongB q V) ∧ bidN a ≤ n' ∧ bidN b ≤ n' ∧ FS nx a (wrongA q V) ∧ FS nx b (wrongB q V)) := by
    refine wcall_ex rfl (Nat.le_of_ble_eq_true rfl) ?_
    have t' := t.push [⟨[.int .i64 q, vC], 1, false, 24⟩] (nx' := nx + 1) (by omega)
    have hlen := t.len
    have hlv := t.lv
    have hx0 : HX nx h (hpush h nx [⟨[.int .i64 q, vC], 1, false, 24⟩]) := (HX.refl _ _).push _ (Nat.le_refl _)
    cases hv : validS q V
    · repeat' (first | (simp (disch := first | omega | assumption |  exact callP_old _ _ _ _ _ | exact one_int _ _ | exact one_bool _ | exact one_string _ | exact one_slice _ _ _ | exact one_pointer _ | exact hget_push_one _ _ _ _ (by omega) | (simp only [List.length_map, List.length_set, List.length_replicate, List.length_cons, List.length_nil]; omega) | (rw [hget_push_lt _ _ _ _ (by omega)]; first | assumption | exact hget_push_one _ _ _ _ (by omega))) only [WW0, WW1, WW2, WW3, WW4, WW5, WW6, WW7, Option.map_some, args0, slotsL, opdsA, List.cons_append, List.nil_append, List.map_cons, List.map_nil, List.append_nil, Option.toList_some, Option.toList_none, Nat.reduceEqDiff, Nat.reduceLT, Nat.reduceAdd, Nat.reduceBEq, Int.reduceAdd, Int.reduceSub, Int.reduceLT, Int.reduceLE, Int.reduceEq, Int.reduceNeg, ↓reduceIte, if_true, if_false, Bool.false_eq_true, Bool.not_true, Bool.not_false, List.length_cons, List.length_nil, List.length_singleton, reduceCtorEq, Int.toNat_natCast, Nat.zero_add, Nat.add_zero, Int.add_sub_cancel, eq_self, List.drop_zero, List.drop_succ_cons, Option.some.injEq, Prod.mk.injEq, mkFnA, Bool.and_true, Bool.true_and, Bool.and_self, chain_p w _ t' q hq, hv]) | (refine does_goI_dec (fun _ => ?_) (fun _ => ?_)) | (refine does_goG_dec (fun _ => ?_) (fun _ => ?_)) | (refine does_goI (fun _ => ?_) (fun _ => ?_)) | (refine does_goG (fun _ => ?_) (fun _ => ?_)))
      refine ⟨.slice none 0 0, .slice none 0 0, _, _, by simp [wrongE, hv, tupleOf], rfl, hx0, by omega, ?_, ?_, ?_, ?_, ?_, ?_⟩
      · simp only [wrongA, hv]; exact Rd.nil
      · simp only [wrongB, hv]; exact Rd.nil
      · simp [bidN, bidA]
      · simp [bidN, bidA]
      · simp only [wrongA, hv]; exact FS.nil
      · simp only [wrongB, hv]; exact FS.nil
    obtain ⟨v1, v2, v3, v4, v5⟩ := valid_out hv
    repeat' (first | (simp (disch := first | omega | assumption |  exact callP_old _ _ _ _ _ | exact one_int _ _ | exact one_bool _ | exact one_string _ | exact one_slice _ _ _ | exact one_pointer _ | exact hget_push_one _ _ _ _ (by omega) | (simp only [List.length_map, List.length_set, List.length_replicate, List.length_cons, List.length_nil]; omega) | (rw [hget_push_lt _ _ _ _ (by omega)]; first | assumption | exact hget_push_one _ _ _ _ (by omega))) only [WW0, WW1, WW2, WW3, WW4, WW5, WW6, WW7, Option.map_some, args0, slotsL, opdsA, List.cons_append, List.nil_append, List.map_cons, List.map_nil, List.append_nil, Option.toList_some, Option.toList_none, Nat.reduceEqDiff, Nat.reduceLT, Nat.reduceAdd, Nat.reduceBEq, Int.reduceAdd, Int.reduceSub, Int.reduceLT, Int.reduceLE, Int.reduceEq, Int.reduceNeg, ↓reduceIte, if_true, if_false, Bool.false_eq_true, Bool.not_true, Bool.not_false, List.length_cons, List.length_nil, List.length_singleton, reduceCtorEq, Int.toNat_natCast, Nat.zero_add, Nat.add_zero, Int.add_sub_cancel, eq_self, List.drop_zero, List.drop_succ_cons, Option.some.injEq, Prod.mk.injEq, mkFnA, Bool.and_true, Bool.true_and, Bool.and_self, chain_p w _ t' q hq, hv, t'.v.len]) | (refine does_goI_dec (fun _ => ?_) (fun _ => ?_)) | (refine does_goG_dec (fun _ => ?_) (fun _ => ?_)) | (refine does_goI (fun _ => ?_) (fun _ => ?_)) | (refine does_goG (fun _ => ?_) (fun _ => ?_)))
    refine does_while (fun m fr t => ∃ (k : Nat) (v : Value) (h1 : Heap) (n1 : Nat), m = V.length - k ∧ k ≤ V.length ∧ fr = [(1, .pointer (some ⟨nx, 0, some 0⟩)), (5, v), (6, .slice none 0 0), (7, .int .i64 k)] ∧ t = ⟨h1, n1, p⟩ ∧
      HX (nx + 1) (hpush h nx [⟨[.int .i64 q, vC], 1, false, 24⟩]) h1 ∧ nx + 1 ≤ n1 ∧ Own (nx + 1) ⟨h1, n1, p⟩ 3 1 v (sel (cardP V) k).length ((sel (cardP V) k).map vI)) (m := V.length) ?_ ?_ ?_
    · exact ⟨0, _, _, _, by omega, by omega, rfl, rfl, HX.refl _ _, Nat.le_refl _, Own.nil⟩
    · simp (disch := first | omega | assumption |  exact callP_old _ _ _ _ _ | exact one_int _ _ | exact one_bool _ | exact one_string _ | exact one_slice _ _ _ | exact one_pointer _ | exact hget_push_one _ _ _ _ (by omega) | (simp only [List.length_map, List.length_set, List.length_replicate, List.length_cons, List.length_nil]; omega) | (rw [hget_push_lt _ _ _ _ (by omega)]; first | assumption | exact hget_push_one _ _ _ _ (by omega))) only [WW0, WW1, WW2, WW3, WW4, WW5, WW6, WW7, Option.map_some, args0, slotsL, opdsA, List.cons_append, List.nil_append, List.map_cons, List.map_nil, List.append_nil, Option.toList_some, Option.toList_none, Nat.reduceEqDiff, Nat.reduceLT, Nat.reduceAdd, Nat.reduceBEq, Int.reduceAdd, Int.reduceSub, Int.reduceLT, Int.reduceLE, Int.reduceEq, Int.reduceNeg, ↓reduceIte, if_true, if_false, Bool.false_eq_true, Bool.not_true, Bool.not_false, List.length_cons, List.length_nil, List.length_singleton, reduceCtorEq, Int.toNat_natCast, Nat.zero_add, Nat.add_zero, Int.add_sub_cancel, eq_self, List.drop_zero, List.drop_succ_cons, Option.some.injEq, Prod.mk.injEq, mkFnA, Bool.and_true, Bool.true_and, Bool.and_self]
      unfold many; omega
    · rintro m fr tt ⟨k, v, h1, n1, rfl, hk, rfl, rfl, hx1, hn1, ho⟩
      have ht1 := t'.hx hx1 hn1
      have hb2 := ho.bid2
      have hbd := ho.bid
      simp only at hbd
      have hsl := sel_le (cardP V) k
      have hbox : hget h1 nx = some ⟨[.int .i64 q, vC], 1, false, 24⟩ := by rw [hx1 nx (by omega)]; exact hget_push_one _ _ _ _ rfl
      by_cases hlt : k < V.length
      · have hr := ht1.r k hlt
        have happ := ho.appRow (E := EN w (n + 4)) (b := 8) (c := .int .i64 k) (t' := 3) (g := false) (one_int _ _) (by omega) (by omega)
        have hco := card_odd V k
        have hpl := pegsTo_le V[k]! V[k]!.length
        have hlr := t.lr k hlt
        cases hcp : cardP V k
        · rw [hcp] at hco
          have hco := of_decide_eq_false hco.symm
          repeat' (first | (simp (disch := first | omega | assumption |  exact callP_old _ _ _ _ _ | exact one_int _ _ | exact one_bool _ | exact one_string _ | exact one_slice _ _ _ | exact one_pointer _ | exact hget_push_one _ _ _ _ (by omega) | (simp only [List.length_map, List.length_set, List.length_replicate, List.length_cons, List.length_nil]; omega) | (rw [hget_push_lt _ _ _ _ (by omega)]; first | assumption | exact hget_push_one _ _ _ _ (by omega))) only [WW0, WW1, WW2, WW3, WW4, WW5, WW6, WW7, Option.map_some, args0, slotsL, opdsA, List.cons_append, List.nil_append, List.map_cons, List.map_nil, List.append_nil, Option.toList_some, Option.toList_none, Nat.reduceEqDiff, Nat.reduceLT, Nat.reduceAdd, Nat.reduceBEq, Int.reduceAdd, Int.reduceSub, Int.reduceLT, Int.reduceLE, Int.reduceEq, Int.reduceNeg, ↓reduceIte, if_true, if_false, Bool.false_eq_true, Bool.not_true, Bool.not_false, List.length_cons, List.length_nil, List.length_singleton, reduceCtorEq, Int.toNat_natCast, Nat.zero_add, Nat.add_zero, Int.add_sub_cancel, eq_self, List.drop_zero, List.drop_succ_cons, Option.some.injEq, Prod.mk.injEq, mkFnA, Bool.and_true, Bool.true_and, Bool.and_self, c9l1, hbox, ht1.v.idx, ht1.v.load, ht1.v.len, pegs_p w _ hr hlr]) | (refine does_goI_dec (fun _ => ?_) (fun _ => ?_)) | (refine does_goG_dec (fun _ => ?_) (fun _ => ?_)) | (refine does_goI (fun _ => ?_) (fun _ => ?_)) | (refine does_goG (fun _ => ?_) (fun _ => ?_)))
          refine ⟨_, ?_, k + 1, _, _, _, rfl, hlt, by simp; rfl, rfl, hx1, by omega, ?_⟩
          · omega
          · simpa [sel, hcp] using ho
        · rw [hcp] at hco
          have hco := of_decide_eq_true hco.symm
          repeat' (first | (simp (disch := first | omega | assumption |  exact callP_old _ _ _ _ _ | exact one_int _ _ | exact one_bool _ | exact one_string _ | exact one_slice _ _ _ | exact one_pointer _ | exact hget_push_one _ _ _ _ (by omega) | (simp only [List.length_map, List.length_set, List.length_replicate, List.length_cons, List.length_nil]; omega) | (rw [hget_push_lt _ _ _ _ (by omega)]; first | assumption | exact hget_push_one _ _ _ _ (by omega))) only [WW0, WW1, WW2, WW3, WW4, WW5, WW6, WW7, Option.map_some, args0, slotsL, opdsA, List.cons_append, List.nil_append, List.map_cons, List.map_nil, List.append_nil, Option.toList_some, Option.toList_none, Nat.reduceEqDiff, Nat.reduceLT, Nat.reduceAdd, Nat.reduceBEq, Int.reduceAdd, Int.reduceSub, Int.reduceLT, Int.reduceLE, Int.reduceEq, Int.reduceNeg, ↓reduceIte, if_true, if_false, Bool.false_eq_true, Bool.not_true, Bool.not_false, List.length_cons, List.length_nil, List.length_singleton, reduceCtorEq, Int.toNat_natCast, Nat.zero_add, Nat.add_zero, Int.add_sub_cancel, eq_self, List.drop_zero, List.drop_succ_cons, Option.some.injEq, Prod.mk.injEq, mkFnA, Bool.and_true, Bool.true_and, Bool.and_self, c9l1, hbox, ht1.v.idx, ht1.v.load, ht1.v.len, pegs_p w _ hr hlr, happ]) | (refine does_goI_dec (fun _ => ?_) (fun _ => ?_)) | (refine does_goG_dec (fun _ => ?_) (fun _ => ?_)) | (refine does_goI (fun _ => ?_) (fun _ => ?_)) | (refine does_goG (fun _ => ?_) (fun _ => ?_)))
          refine ⟨_, ?_, k + 1, _, _, _, rfl, hlt, by simp; rfl, rfl, ((hx1.push _ (by omega)).delO (by omega)).push _ (by omega), by omega, ?_⟩
          · omega
          · have e : sel (cardP V) (k + 1) = sel (cardP V) k ++ [(k : Int)] := by simp [sel, hcp]
            rw [e, List.map_append, List.length_append]
            exact Own.grown (by simp) (by omega) (by omega)
      · have : k = V.length := by omega
        subst this
        have hrA := ho.rdI (old := oldOf w) rfl
        repeat' (first | (simp (disch := first | omega | assumption |  exact callP_old _ _ _ _ _ | exact one_int _ _ | exact one_bool _ | exact one_string _ | exact one_slice _ _ _ | exact one_pointer _ | exact hget_push_one _ _ _ _ (by omega) | (simp only [List.length_map, List.length_set, List.length_replicate, List.length_cons, List.length_nil]; omega) | (rw [hget_push_lt _ _ _ _ (by omega)]; first | assumption | exact hget_push_one _ _ _ _ (by omega))) only [WW0, WW1, WW2, WW3, WW4, WW5, WW6, WW7, Option.map_some, args0, slotsL, opdsA, List.cons_append, List.nil_append, List.map_cons, List.map_nil, List.append_nil, Option.toList_some, Option.toList_none, Nat.reduceEqDiff, Nat.reduceLT, Nat.reduceAdd, Nat.reduceBEq, Int.reduceAdd, Int.reduceSub, Int.reduceLT, Int.reduceLE, Int.reduceEq, Int.reduceNeg, ↓reduceIte, if_true, if_false, Bool.false_eq_true, Bool.not_true, Bool.not_false, List.length_cons, List.length_nil, List.length_singleton, reduceCtorEq, Int.toNat_natCast, Nat.zero_add, Nat.add_zero, Int.add_sub_cancel, eq_self, List.drop_zero, List.drop_succ_cons, Option.some.injEq, Prod.mk.injEq, mkFnA, Bool.and_true, Bool.true_and, Bool.and_self, c9l1, hbox, ht1.v.len]) | (refine does_goI_dec (fun _ => ?_) (fun _ => ?_)) | (refine does_goG_dec (fun _ => ?_) (fun _ => ?_)) | (refine does_goI (fun _ => ?_) (fun _ => ?_)) | (refine does_goG (fun _ => ?_) (fun _ => ?_)))
        refine does_while (fun m fr t => ∃ (k : Nat) (u : Value) (h2 : Heap) (n2 : Nat), m = (q + 1).toNat - k ∧ k ≤ (q + 1).toNat ∧ fr = [(1, .pointer (some ⟨nx, 0, some 0⟩)), (5, v), (6, u), (8, .int .i64 k)] ∧ t = ⟨h2, n2, p⟩ ∧
          HX n1 h1 h2 ∧ n1 ≤ n2 ∧ Own n1 ⟨h2, n2, p⟩ 3 1 u (sel (placeP V) k).length ((sel (placeP V) k).map vI)) (m := (q + 1).toNat) ?_ ?_ ?_
        · exact ⟨0, _, _, _, by omega, by omega, rfl, rfl, HX.refl _ _, Nat.le_refl _, Own.nil⟩
        · simp (disch := first | omega | assumption |  exact callP_old _ _ _ _ _ | exact one_int _ _ | exact one_bool _ | exact one_string _ | exact one_slice _ _ _ | exact one_pointer _ | exact hget_push_one _ _ _ _ (by omega) | (simp only [List.length_map, List.length_set, List.length_replicate, List.length_cons, List.length_nil]; omega) | (rw [hget_push_lt _ _ _ _ (by omega)]; first | assumption | exact hget_push_one _ _ _ _ (by omega))) only [WW0, WW1, WW2, WW3, WW4, WW5, WW6, WW7, Option.map_some, args0, slotsL, opdsA, List.cons_append, List.nil_append, List.map_cons, List.map_nil, List.append_nil, Option.toList_some, Option.toList_none, Nat.reduceEqDiff, Nat.reduceLT, Nat.reduceAdd, Nat.reduceBEq, Int.reduceAdd, Int.reduceSub, Int.reduceLT, Int.reduceLE, Int.reduceEq, Int.reduceNeg, ↓reduceIte, if_true, if_false, Bool.false_eq_true, Bool.not_true, Bool.not_false, List.length_cons, List.length_nil, List.length_singleton, reduceCtorEq, Int.toNat_natCast, Nat.zero_add, Nat.add_zero, Int.add_sub_cancel, eq_self, List.drop_zero, List.drop_succ_cons, Option.some.injEq, Prod.mk.injEq, mkFnA, Bool.and_true, Bool.true_and, Bool.and_self]
          unfold many; omega
        · rintro m fr tt ⟨k, u, h2, n2, rfl, hk, rfl, rfl, hy1, hm1, hu⟩
          have ht2 := ht1.hx hy1 hm1
          have hb2 := hu.bid2
          have hbd2 := hu.bid
          simp only at hbd2
          have hsl := sel_le (placeP V) k
          have hbox2 : hget h2 nx = some ⟨[.int .i64 q, vC], 1, false, 24⟩ := by rw [hy1 nx (by omega)]; exact hbox
          by_cases hlt : k < (q + 1).toNat
          · have hlt' : (k : Int) < q + 1 := by omega
            have hcol := column_p w (n + 3) (p := p) ht2 k (fun i hi => by have := v5 i hi; omega)
            obtain ⟨B, hB⟩ : ∃ B, B = newB 4 1 V.length ((colS V k V.length).map Value.bool) := ⟨_, rfl⟩
            have hbl : B.length ≤ 1 := by rw [hB]; exact newB_le ..
            have hrc : Rd (oldOf w) (hpush h2 n2 B) Value.bool (newV n2 V.length) (colS V k V.length) := by rw [hB]; exact Rd.newV' (colS_len ..).symm
            rw [← hB] at hcol
            have hx3 : HX n1 h1 (hpush h2 n2 B) := hy1.push _ hm1
            have hu3 : Own n1 ⟨hpush h2 n2 B, n2 + B.length, p⟩ 3 1 u (sel (placeP V) k).length ((sel (placeP V) k).map vI) := hu.push B rfl
            have hpeg := pegs_p w (n + 3) (nx := n2 + B.length) (p := p) hrc (by rw [colS_len]; omega)
            have happ := hu3.appRow (E := EN w (n + 4)) (b := 8) (c := .int .i64 k) (t' := 3) (g := false) (one_int _ _) (by omega) (by omega)
            have hco := place_odd V k
            have hpl := pegsTo_le (colS V k V.length) (colS V k V.length).length
            rw [colS_len] at hpl
            rw [colS_len] at hco hpeg
            cases hcp : placeP V k
            · rw [hcp] at hco
              have hco := of_decide_eq_false hco.symm
              repeat' (first | (simp (disch := first | omega | assumption |  exact callP_old _ _ _ _ _ | exact one_int _ _ | exact one_bool _ | exact one_string _ | exact one_slice _ _ _ | exact one_pointer _ | exact hget_push_one _ _ _ _ (by omega) | (simp only [List.length_map, List.length_set, List.length_replicate, List.length_cons, List.length_nil]; omega) | (rw [hget_push_lt _ _ _ _ (by omega)]; first | assumption | exact hget_push_one _ _ _ _ (by omega))) only [WW0, WW1, WW2, WW3, WW4, WW5, WW6, WW7, Option.map_some, args0, slotsL, opdsA, List.cons_append, List.nil_append, List.map_cons, List.map_nil, List.append_nil, Option.toList_some, Option.toList_none, Nat.reduceEqDiff, Nat.reduceLT, Nat.reduceAdd, Nat.reduceBEq, Int.reduceAdd, Int.reduceSub, Int.reduceLT, Int.reduceLE, Int.reduceEq, Int.reduceNeg, ↓reduceIte, if_true, if_false, Bool.false_eq_true, Bool.not_true, Bool.not_false, List.length_cons, List.length_nil, List.length_singleton, reduceCtorEq, Int.toNat_natCast, Nat.zero_add, Nat.add_zero, Int.add_sub_cancel, eq_self, List.drop_zero, List.drop_succ_cons, Option.some.injEq, Prod.mk.injEq, mkFnA, Bool.and_true, Bool.true_and, Bool.and_self, c9l0, hbox2, hcol, hpeg]) | (refine does_goI_dec (fun _ => ?_) (fun _ => ?_)) | (refine does_goG_dec (fun _ => ?_) (fun _ => ?_)) | (refine does_goI (fun _ => ?_) (fun _ => ?_)) | (refine does_goG (fun _ => ?_) (fun _ => ?_)))
              refine ⟨_, ?_, k + 1, _, _, _, rfl, hlt, by simp; rfl, rfl, hx3, by omega, ?_⟩
              · omega
              · simpa [sel, hcp] using hu3
            · rw [hcp] at hco
              have hco := of_decide_eq_true hco.symm
              repeat' (first | (simp (disch := first | omega | assumption |  exact callP_old _ _ _ _ _ | exact one_int _ _ | exact one_bool _ | exact one_string _ | exact one_slice _ _ _ | exact one_pointer _ | exact hget_push_one _ _ _ _ (by omega) | (simp only [List.length_map, List.length_set, List.length_replicate, List.length_cons, List.length_nil]; omega) | (rw [hget_push_lt _ _ _ _ (by omega)]; first | assumption | exact hget_push_one _ _ _ _ (by omega))) only [WW0, WW1, WW2, WW3, WW4, WW5, WW6, WW7, Option.map_some, args0, slotsL, opdsA, List.cons_append, List.nil_append, List.map_cons, List.map_nil, List.append_nil, Option.toList_some, Option.toList_none, Nat.reduceEqDiff, Nat.reduceLT, Nat.reduceAdd, Nat.reduceBEq, Int.reduceAdd, Int.reduceSub, Int.reduceLT, Int.reduceLE, Int.reduceEq, Int.reduceNeg, ↓reduceIte, if_true, if_false, Bool.false_eq_true, Bool.not_true, Bool.not_false, List.length_cons, List.length_nil, List.length_singleton, reduceCtorEq, Int.toNat_natCast, Nat.zero_add, Nat.add_zero, Int.add_sub_cancel, eq_self, List.drop_zero, List.drop_succ_cons, Option.some.injEq, Prod.mk.injEq, mkFnA, Bool.and_true, Bool.true_and, Bool.and_self, c9l0, hbox2, hcol, hpeg, happ]) | (refine does_goI_dec (fun _ => ?_) (fun _ => ?_)) | (refine does_goG_dec (fun _ => ?_) (fun _ => ?_)) | (refine does_goI (fun _ => ?_) (fun _ => ?_)) | (refine does_goG (fun _ => ?_) (fun _ => ?_)))
              refine ⟨_, ?_, k + 1, _, _, _, rfl, hlt, by simp; rfl, rfl, ((hx3.push _ (by omega)).delO (by omega)).push _ (by omega), by omega, ?_⟩
              · omega
              · have e : sel (placeP V) (k + 1) = sel (placeP V) k ++ [(k : Int)] := by simp [sel, hcp]
                rw [e, List.map_append, List.length_append]
                exact Own.grown (by simp) (by omega) (by omega)
          · have : k = (q + 1).toNat := by omega
            subst this
            have hrB := hu.rdI (old := oldOf w) rfl
            repeat' (first | (simp (disch := first | omega | assumption |  exact callP_old _ _ _ _ _ | exact one_int _ _ | exact one_bool _ | exact one_string _ | exact one_slice _ _ _ | exact one_pointer _ | exact hget_push_one _ _ _ _ (by omega) | (simp only [List.length_map, List.length_set, List.length_replicate, List.length_cons, List.length_nil]; omega) | (rw [hget_push_lt _ _ _ _ (by omega)]; first | assumption | exact hget_push_one _ _ _ _ (by omega))) only [WW0, WW1, WW2, WW3, WW4, WW5, WW6, WW7, Option.map_some, args0, slotsL, opdsA, List.cons_append, List.nil_append, List.map_cons, List.map_nil, List.append_nil, Option.toList_some, Option.toList_none, Nat.reduceEqDiff, Nat.reduceLT, Nat.reduceAdd, Nat.reduceBEq, Int.reduceAdd, Int.reduceSub, Int.reduceLT, Int.reduceLE, Int.reduceEq, Int.reduceNeg, ↓reduceIte, if_true, if_false, Bool.false_eq_true, Bool.not_true, Bool.not_false, List.length_cons, List.length_nil, List.length_singleton, reduceCtorEq, Int.toNat_natCast, Nat.zero_add, Nat.add_zero, Int.add_sub_cancel, eq_self, List.drop_zero, List.drop_succ_cons, Option.some.injEq, Prod.mk.injEq, mkFnA, Bool.and_true, Bool.true_and, Bool.and_self, c9l0, hbox2]) | (refine does_goI_dec (fun _ => ?_) (fun _ => ?_)) | (refine does_goG_dec (fun _ => ?_) (fun _ => ?_)) | (refine does_goI (fun _ => ?_) (fun _ => ?_)) | (refine does_goG (fun _ => ?_) (fun _ => ?_)))
            refine ⟨_, _, _, _, by simp [wrongE, hv, tupleOf]; exact ⟨rfl, rfl⟩, rfl, hx0.trans ((hx1.trans hy1 (by omega))) (by omega), by omega, ?_, ?_, ?_, ?_, ?_, ?_⟩
            · simp only [wrongA, hv, if_true]; exact hrA.hx hy1 hbd
            · simp only [wrongB, hv, if_true]; exact hrB
            · omega
            · exact hbd2
            · simp only [wrongA, hv, if_true]; exact ho.fs (by omega)
            · simp only [wrongB, hv, if_true]; exact hu.fs (by omega)
  obtain ⟨v, s', hc, a, b, h', n', rfl, rfl, hq⟩ := key
  exact ⟨a, b, h', n', hc, hq⟩
end
end Go.Proofs.Ytepdkmdcainddaa
-- lib2
namespace Go.Proofs.Ytepdkmdcainddaa
open Go Go.Itp
set_option linter.unusedSimpArgs false
set_option linter.unusedVariables false
set_option maxRecDepth 100000
set_option maxHeartbeats 1000000
attribute [local irreducible] Does

theorem imp (n : Nat) (f : FuncId) (xs : List Value) (s : St) (w : World) (h : (match fns f with | some af => af.pure | none => true) = false) : (EN w (n + 1)).pcall f xs s = none := by
  cases hf : fns f with
  | none => rw [hf] at h; cases h
  | some af => rw [hf] at h; exact pcall_imp hf h (by
      have : Nat.beq f 32 = false := by
        cases e : Nat.beq f 32 with
        | false => rfl
        | true => rw [Nat.eq_of_beq_eq_true e] at hf; cases hf
      show (if Nat.beq f 32 = true then _ else none) = none
      rw [this]; rfl)
theorem zchain : expand [(1, .int .i64 0), (1, .slice none 0 0)] = [.int .i64 0, .slice none 0 0] := rfl
theorem zgrid : expand [(2, .int .i64 0), (1, .slice none 0 0)] = [.int .i64 0, .int .i64 0, .slice none 0 0] := rfl
/-! ### Decode -/
def bitsTo (q : Nat) (V : List (List Bool)) (k : Nat) : List Bool := (List.range k).flatMap fun y => V[y]!.take q
theorem bitsTo_succ (q : Nat) (V : List (List Bool)) (k : Nat) : bitsTo q V (k + 1) = bitsTo q V k ++ V[k]!.take q := by simp [bitsTo, List.range_succ]
theorem bitsTo_len {q : Nat} {V : List (List Bool)} (hV : ∀ k, k < V.length → q ≤ V[k]!.length) : ∀ k, k ≤ V.length → (bitsTo q V k).length = k * q
  | 0, _ => by simp [bitsTo]
  | k + 1, hk => by
    have := hV k (by omega)
    rw [bitsTo_succ, List.length_append, bitsTo_len hV k (by omega), List.length_take, Nat.min_eq_left this, Nat.succ_mul]
theorem take_get {α : Type} [Inhabited α] (l : List α) (n i : Nat) (h : i < n) (hn : n ≤ l.length) : (l.take n)[i]! = l[i]! := by
  rw [getElem!_pos (l.take n) i (by simp; omega), getElem!_pos l i (by omega)]; simp
def decOK (q : Int) (V : List (List Bool)) : Bool := decide (wrongE q V = 0 ∧ wrongA q V = [] ∧ wrongB q V = [])
def decE (q : Int) (V : List (List Bool)) : Int := if wrongE q V = 0 then (if wrongA q V = [] ∧ wrongB q V = [] then 0 else 30) else wrongE q V
/-- the grid that is returned -/
structure GR (w : World) (h : Heap) (nx : Nat) (q : Int) (V : List (List Bool)) (g : Value) : Prop where
  is : ∃ (a b : Int) (v : Value), g = .agg [.int .i64 a, .int .i64 b, v].toArray ∧ bidN v ≤ nx ∧
    (if decE q V = 0 then a = q ∧ b = V.length - 1 ∧ Rd (oldOf w) h Value.bool v (bitsTo q.toNat V (V.length - 1)) else a = 0 ∧ b = 0 ∧ Rd (oldOf w) h Value.bool v [])
section
variable (w : World) (n : Nat) {vC : Value} {rs : List Value} {V : List (List Bool)} {h : Heap} {nx p : Nat}
theorem decode_w (t : CB w h nx vC rs V) (q : Int) (hq : -9223372036854775808 ≤ q ∧ q ≤ 9223372036854775807) (hp : p ≤ nx) :
    ∃ (g : Value) (h' : Heap) (n' : Nat), (EN w (n + 6)).wcall 6 [.agg [.int .i64 q, vC].toArray] ⟨h, nx, p⟩ = some (.tuple [g, .int .i64 (decE q V)].toArray, ⟨h', n', p⟩) ∧
      HX nx h h' ∧ nx ≤ n' ∧ GR w h' n' q V g := by
  have key : ∃ v s', (EN w (n + 6)).wcall 6 [.agg [.int .i64 q, vC].toArray] ⟨h, nx, p⟩ = some (v, s') ∧ (∃ (g : Value) (h' : Heap) (n' : Nat), v = .tuple [g, .int .i64 (decE q V)].toArray ∧ s' = ⟨h', n', p⟩ ∧
      HX nx h h' ∧ nx ≤ n' ∧ GR w h' n' q V g) := by
    refine wcall_ex rfl (Nat.le_of_ble_eq_true rfl) ?_
    have t' := (t.push [⟨[.int .i64 q, vC], 1, false, 24⟩] (nx' := nx + 1) (by omega)).push [⟨[.int .i64 0, .int .i64 0, .slice none 0 0], 1, false, 29⟩] (nx' := nx + 1 + 1) (by omega)
    have hx0 : HX nx h (hpush (hpush h nx [⟨[.int .i64 q, vC], 1, false, 24⟩]) (nx + 1) [⟨[.int .i64 0, .int .i64 0, .slice none 0 0], 1, false, 29⟩]) := ((HX.refl _ _).push _ (Nat.le_refl _)).push _ (by omega)
    have hlen := t.len
    have hlv := t.lv
    obtain ⟨a, b, h1, n1, hc, hx1, hn1, hrA, hrB, hbA, hbB, hfA, hfB⟩ := wrong_w w n t' q hq (p := p) (by omega)
    have himp := fun xs s => imp (n + 4) 8 xs s w rfl
    have hgrid : hget h1 (nx + 1) = some ⟨[.int .i64 0, .int .i64 0, .slice none 0 0], 1, false, 29⟩ := by rw [hx1 _ (by omega)]; exact hget_push_one _ _ _ _ rfl
    have hbox : hget h1 nx = some ⟨[.int .i64 q, vC], 1, false, 24⟩ := by rw [hx1 _ (by omega), hget_push_lt _ _ _ _ (by omega)]; exact hget_push_one _ _ _ _ rfl
    have ht1 := t'.hx hx1 hn1
    have hx01 : HX nx h h1 := hx0.trans hx1 (by omega)
    cases hv : validS q V
    · have he : ¬ wrongE q V = 0 := by simp [wrongE, hv]
      have hd : ¬ decE q V = 0 := by simp [decE, he]
      repeat' (first | (simp (disch := first | omega | assumption | (exact id (by with_unfolding_all rfl)) | ((refine all_cons _ _ (by first | assumption | exact id (by with_unfolding_all rfl)) ?_); (repeat' (first | exact List.all_nil | refine all_cons _ _ (by first | assumption | exact id (by with_unfolding_all rfl)) ?_)); done) |  exact callP_old _ _ _ _ _ | exact one_int _ _ | exact one_bool _ | exact one_string _ | exact one_slice _ _ _ | exact one_pointer _ | exact hget_push_one _ _ _ _ (by omega) | (simp only [List.length_map, List.length_set, List.length_replicate, List.length_cons, List.length_nil]; omega) | (rw [hget_push_lt _ _ _ _ (by omega)]; first | assumption | exact hget_push_one _ _ _ _ (by omega))) only [WW0, WW1, WW2, WW3, WW4, WW5, WW6, WW7, Option.map_some, args0, slotsL, opdsA, List.cons_append, List.nil_append, List.map_cons, List.map_nil, List.append_nil, Option.toList_some, Option.toList_none, Nat.reduceEqDiff, Nat.reduceLT, Nat.reduceAdd, Nat.reduceBEq, Int.reduceAdd, Int.reduceSub, Int.reduceLT, Int.reduceLE, Int.reduceEq, Int.reduceNeg, ↓reduceIte, if_true, if_false, Bool.false_eq_true, Bool.not_true, Bool.not_false, List.length_cons, List.length_nil, List.length_singleton, reduceCtorEq, Int.toNat_natCast, Nat.zero_add, Nat.add_zero, Int.add_sub_cancel, eq_self, List.drop_zero, List.drop_succ_cons, Option.some.injEq, Prod.mk.injEq, mkFnA, Bool.and_true, Bool.true_and, Bool.and_self, zchain, zgrid, himp, hc, hgrid]) | (refine does_goI_dec (fun _ => ?_) (fun _ => ?_)) | (refine does_goG_dec (fun _ => ?_) (fun _ => ?_)) | (refine does_goI (fun _ => ?_) (fun _ => ?_)) | (refine does_goG (fun _ => ?_) (fun _ => ?_)))
      exact ⟨_, _, _, by simp [decE, he, tupleOf]; rfl, rfl, hx01.set _ (by omega), by omega, ⟨0, 0, _, rfl, by simp [bidN, bidA], by rw [if_neg hd]; exact ⟨rfl, rfl, Rd.nil⟩⟩⟩
    have he : wrongE q V = 0 := by simp [wrongE, hv]
    obtain ⟨v1, v2, v3, v4, v5⟩ := valid_out hv
    have hla := sel_le (cardP V) V.length
    have hlb := sel_le (placeP V) (q + 1).toNat
    have hA : wrongA q V = sel (cardP V) V.length := by simp [wrongA, hv]
    have hB : wrongB q V = sel (placeP V) (q + 1).toNat := by simp [wrongB, hv]
    rw [← hA] at hla
    rw [← hB] at hlb
    by_cases hz : 0 < (wrongA q V).length + (wrongB q V).length
    · have hd : decE q V = 30 := by
        simp only [decE, he, if_true]
        rw [if_neg]
        rintro ⟨e1, e2⟩
        rw [e1, e2] at hz; simp at hz
      repeat' (first | (simp (disch := first | omega | assumption | (exact id (by with_unfolding_all rfl)) | ((refine all_cons _ _ (by first | assumption | exact id (by with_unfolding_all rfl)) ?_); (repeat' (first | exact List.all_nil | refine all_cons _ _ (by first | assumption | exact id (by with_unfolding_all rfl)) ?_)); done) |  exact callP_old _ _ _ _ _ | exact one_int _ _ | exact one_bool _ | exact one_string _ | exact one_slice _ _ _ | exact one_pointer _ | exact hget_push_one _ _ _ _ (by omega) | (simp only [List.length_map, List.length_set, List.length_replicate, List.length_cons, List.length_nil]; omega) | (rw [hget_push_lt _ _ _ _ (by omega)]; first | assumption | exact hget_push_one _ _ _ _ (by omega))) only [WW0, WW1, WW2, WW3, WW4, WW5, WW6, WW7, Option.map_some, args0, slotsL, opdsA, List.cons_append, List.nil_append, List.map_cons, List.map_nil, List.append_nil, Option.toList_some, Option.toList_none, Nat.reduceEqDiff, Nat.reduceLT, Nat.reduceAdd, Nat.reduceBEq, Int.reduceAdd, Int.reduceSub, Int.reduceLT, Int.reduceLE, Int.reduceEq, Int.reduceNeg, ↓reduceIte, if_true, if_false, Bool.false_eq_true, Bool.not_true, Bool.not_false, List.length_cons, List.length_nil, List.length_singleton, reduceCtorEq, Int.toNat_natCast, Nat.zero_add, Nat.add_zero, Int.add_sub_cancel, eq_self, List.drop_zero, List.drop_succ_cons, Option.some.injEq, Prod.mk.injEq, mkFnA, Bool.and_true, Bool.true_and, Bool.and_self, zchain, zgrid, himp, hc, hgrid, hrA.len, hrB.len]) | (refine does_goI_dec (fun _ => ?_) (fun _ => ?_)) | (refine does_goG_dec (fun _ => ?_) (fun _ => ?_)) | (refine does_goI (fun _ => ?_) (fun _ => ?_)) | (refine does_goG (fun _ => ?_) (fun _ => ?_)))
      exact ⟨_, _, _, by simp [hd, tupleOf]; rfl, rfl, hx01.set _ (by omega), by omega, ⟨0, 0, _, rfl, by simp [bidN, bidA], by rw [if_neg (by rw [hd]; decide)]; exact ⟨rfl, rfl, Rd.nil⟩⟩⟩
    have hd : decE q V = 0 := by
      simp only [decE, he, if_true]
      rw [if_pos ⟨List.length_eq_zero_iff.1 (by omega), List.length_eq_zero_iff.1 (by omega)⟩]
    obtain ⟨u, hu1, hu2, hu3⟩ := ht1.v.slcHi .i64 ((V.length : Int) - 1) (by omega) (by omega) (by omega)
    obtain ⟨K, hK⟩ : ∃ K, K = V.length - 1 := ⟨_, rfl⟩
    obtain ⟨Q, hQ⟩ : ∃ Q, Q = q.toNat := ⟨_, rfl⟩
    have hKi : (V.length : Int) - 1 = K := by omega
    have hqi : q = Q := by omega
    rw [show ((V.length : Int) - 1).toNat = K by omega] at hu2
    have hlT : (rs.take K).length = K := by rw [List.length_take]; omega
    have hbl := bitsTo_len (q := Q) (V := V) fun k hk => by have := v5 k hk; omega
    have hbv := ht1.bv
    repeat' (first | (simp (disch := first | omega | assumption | (exact id (by with_unfolding_all rfl)) | ((refine all_cons _ _ (by first | assumption | exact id (by with_unfolding_all rfl)) ?_); (repeat' (first | exact List.all_nil | refine all_cons _ _ (by first | assumption | exact id (by with_unfolding_all rfl)) ?_)); done) |  exact callP_old _ _ _ _ _ | exact one_int _ _ | exact one_bool _ | exact one_string _ | exact one_slice _ _ _ | exact one_pointer _ | exact hget_push_one _ _ _ _ (by omega) | (simp only [List.length_map, List.length_set, List.length_replicate, List.length_cons, List.length_nil]; omega) | (rw [hget_push_lt _ _ _ _ (by omega)]; first | assumption | exact hget_push_one _ _ _ _ (by omega))) only [WW0, WW1, WW2, WW3, WW4, WW5, WW6, WW7, Option.map_some, args0, slotsL, opdsA, List.cons_append, List.nil_append, List.map_cons, List.map_nil, List.append_nil, Option.toList_some, Option.toList_none, Nat.reduceEqDiff, Nat.reduceLT, Nat.reduceAdd, Nat.reduceBEq, Int.reduceAdd, Int.reduceSub, Int.reduceLT, Int.reduceLE, Int.reduceEq, Int.reduceNeg, ↓reduceIte, if_true, if_false, Bool.false_eq_true, Bool.not_true, Bool.not_false, List.length_cons, List.length_nil, List.length_singleton, reduceCtorEq, Int.toNat_natCast, Nat.zero_add, Nat.add_zero, Int.add_sub_cancel, eq_self, List.drop_zero, List.drop_succ_cons, Option.some.injEq, Prod.mk.injEq, mkFnA, Bool.and_true, Bool.true_and, Bool.and_self, zchain, zgrid, himp, hc, hgrid, hbox, hrA.len, hrB.len, ht1.v.len, hlen, hu1, hu2.len, hlT]) | (refine does_goI_dec (fun _ => ?_) (fun _ => ?_)) | (refine does_goG_dec (fun _ => ?_) (fun _ => ?_)) | (refine does_goI (fun _ => ?_) (fun _ => ?_)) | (refine does_goG (fun _ => ?_) (fun _ => ?_)))
    refine does_while (fun m fr t => ∃ (k : Nat) (v : Value) (h2 : Heap) (n2 : Nat), m = K - k ∧ k ≤ K ∧ fr = [(2, .pointer (some ⟨nx + 1, 0, some 0⟩)), (7, .pointer (some ⟨n1, 0, some 0⟩)), (38, u), (39, .int .i64 K), (40, .int .i64 k)] ∧ t = ⟨h2, n2, p⟩ ∧
      HX n1 h1 h2 ∧ n1 + 1 ≤ n2 ∧ hget h2 n1 = some ⟨[.int .i64 q, .int .i64 ((V.length : Int) - 1), v], 1, false, 29⟩ ∧ Own (n1 + 1) ⟨h2, n2, p⟩ 4 1 v (bitsTo Q V k).length ((bitsTo Q V k).map Value.bool)) (m := K) ?_ ?_ ?_
    · refine ⟨0, _, _, _, (Nat.sub_zero _).symm, Nat.zero_le _, rfl, rfl, ((HX.refl _ _).push _ (Nat.le_refl _)).set _ (Nat.le_refl _), Nat.le_refl _, by rw [hget_set_self, hget_push_one _ _ _ _ rfl]; rfl, Own.nil⟩
    · simp (disch := first | omega | assumption | (exact id (by with_unfolding_all rfl)) | ((refine all_cons _ _ (by first | assumption | exact id (by with_unfolding_all rfl)) ?_); (repeat' (first | exact List.all_nil | refine all_cons _ _ (by first | assumption | exact id (by with_unfolding_all rfl)) ?_)); done) |  exact callP_old _ _ _ _ _ | exact one_int _ _ | exact one_bool _ | exact one_string _ | exact one_slice _ _ _ | exact one_pointer _ | exact hget_push_one _ _ _ _ (by omega) | (simp only [List.length_map, List.length_set, List.length_replicate, List.length_cons, List.length_nil]; omega) | (rw [hget_push_lt _ _ _ _ (by omega)]; first | assumption | exact hget_push_one _ _ _ _ (by omega))) only [WW0, WW1, WW2, WW3, WW4, WW5, WW6, WW7, Option.map_some, args0, slotsL, opdsA, List.cons_append, List.nil_append, List.map_cons, List.map_nil, List.append_nil, Option.toList_some, Option.toList_none, Nat.reduceEqDiff, Nat.reduceLT, Nat.reduceAdd, Nat.reduceBEq, Int.reduceAdd, Int.reduceSub, Int.reduceLT, Int.reduceLE, Int.reduceEq, Int.reduceNeg, ↓reduceIte, if_true, if_false, Bool.false_eq_true, Bool.not_true, Bool.not_false, List.length_cons, List.length_nil, List.length_singleton, reduceCtorEq, Int.toNat_natCast, Nat.zero_add, Nat.add_zero, Int.add_sub_cancel, eq_self, List.drop_zero, List.drop_succ_cons, Option.some.injEq, Prod.mk.injEq, mkFnA, Bool.and_true, Bool.true_and, Bool.and_self]
      unfold many; omega
    · rintro m fr tt ⟨k, v, h2, n2, rfl, hk, rfl, rfl, hy1, hm1, h7, ho⟩
      have ht2 := ht1.hx hy1 (nx' := n2) (by omega)
      have hb2 := ho.bid2
      have hbd := ho.bid
      simp only at hbd
      have hu2' := hu2.hx hy1 (by omega)
      by_cases hlt : k < K
      · have hr := ht2.r k (by omega)
        have hbk := hbl k (by omega)
        have hbk1 : k * Q ≤ 65 * 40 := Nat.mul_le_mul (by omega) (by omega)
        have hge := take_get rs K k hlt (by omega)
        have hone := hr.one
        obtain ⟨c, hc1, hc2, hc3⟩ := hr.slcHi .i64 q (by have := v5 k (by omega); omega) (by omega) (by have := v5 k (by omega); omega)
        rw [← hQ] at hc2
        have hlc : (V[k]!.take Q).length = Q := by have := v5 k (by omega); rw [List.length_take]; omega
        have happ := ho.appRd (E := EN w (n + 5)) (f := Value.bool) (y := c) (b := 1) (by rw [callP_old]; exact hc2) (by omega) (fun _ => rfl) (by omega) (by omega)
        have hbrk := ht2.br k (by omega)
        repeat' (first | (simp (disch := first | omega | assumption | (exact id (by with_unfolding_all rfl)) | ((refine all_cons _ _ (by first | assumption | exact id (by with_unfolding_all rfl)) ?_); (repeat' (first | exact List.all_nil | refine all_cons _ _ (by first | assumption | exact id (by with_unfolding_all rfl)) ?_)); done) |  exact callP_old _ _ _ _ _ | exact one_int _ _ | exact one_bool _ | exact one_string _ | exact one_slice _ _ _ | exact one_pointer _ | exact hget_push_one _ _ _ _ (by omega) | (simp only [List.length_map, List.length_set, List.length_replicate, List.length_cons, List.length_nil]; omega) | (rw [hget_push_lt _ _ _ _ (by omega)]; first | assumption | exact hget_push_one _ _ _ _ (by omega))) only [WW0, WW1, WW2, WW3, WW4, WW5, WW6, WW7, Option.map_some, args0, slotsL, opdsA, List.cons_append, List.nil_append, List.map_cons, List.map_nil, List.append_nil, Option.toList_some, Option.toList_none, Nat.reduceEqDiff, Nat.reduceLT, Nat.reduceAdd, Nat.reduceBEq, Int.reduceAdd, Int.reduceSub, Int.reduceLT, Int.reduceLE, Int.reduceEq, Int.reduceNeg, ↓reduceIte, if_true, if_false, Bool.false_eq_true, Bool.not_true, Bool.not_false, List.length_cons, List.length_nil, List.length_singleton, reduceCtorEq, Int.toNat_natCast, Nat.zero_add, Nat.add_zero, Int.add_sub_cancel, eq_self, List.drop_zero, List.drop_succ_cons, Option.some.injEq, Prod.mk.injEq, mkFnA, Bool.and_true, Bool.true_and, Bool.and_self, c6l0, hu2'.idx, hu2'.load, hge, h7, hc1, happ, hget_delO]) | (refine does_goI_dec (fun _ => ?_) (fun _ => ?_)) | (refine does_goG_dec (fun _ => ?_) (fun _ => ?_)) | (refine does_goI (fun _ => ?_) (fun _ => ?_)) | (refine does_goG (fun _ => ?_) (fun _ => ?_)))
        refine ⟨_, ?_, k + 1, _, _, _, rfl, hlt, by simp, rfl, ?_, by omega, by rw [hget_set_self, hget_push_lt _ _ _ _ (by omega), hget_delO _ _ _ (by omega), h7]; rfl, ?_⟩
        · omega
        · exact (((hy1.delO (by omega)).push _ (by omega)).set _ (Nat.le_refl _))
        · rw [bitsTo_succ, List.map_append, List.length_append]
          exact (Own.grown (by simp) (by omega) (by omega)).to (by simp) rfl fun i hi => by
            simp only [bidN, bidA] at hi
            exact hget_set_ne _ _ _ _ (by omega)
      · have : k = K := by omega
        subst this
        have hgrid2 : hget h2 (nx + 1) = some ⟨[.int .i64 0, .int .i64 0, .slice none 0 0], 1, false, 29⟩ := by rw [hy1 _ (by omega)]; exact hgrid
        have hv1 := (ho.rd (f := Value.bool) (old := oldOf w)).one
        repeat' (first | (simp (disch := first | omega | assumption | (exact id (by with_unfolding_all rfl)) | ((refine all_cons _ _ (by first | assumption | exact id (by with_unfolding_all rfl)) ?_); (repeat' (first | exact List.all_nil | refine all_cons _ _ (by first | assumption | exact id (by with_unfolding_all rfl)) ?_)); done) |  exact callP_old _ _ _ _ _ | exact one_int _ _ | exact one_bool _ | exact one_string _ | exact one_slice _ _ _ | exact one_pointer _ | exact hget_push_one _ _ _ _ (by omega) | (simp only [List.length_map, List.length_set, List.length_replicate, List.length_cons, List.length_nil]; omega) | (rw [hget_push_lt _ _ _ _ (by omega)]; first | assumption | exact hget_push_one _ _ _ _ (by omega))) only [WW0, WW1, WW2, WW3, WW4, WW5, WW6, WW7, Option.map_some, args0, slotsL, opdsA, List.cons_append, List.nil_append, List.map_cons, List.map_nil, List.append_nil, Option.toList_some, Option.toList_none, Nat.reduceEqDiff, Nat.reduceLT, Nat.reduceAdd, Nat.reduceBEq, Int.reduceAdd, Int.reduceSub, Int.reduceLT, Int.reduceLE, Int.reduceEq, Int.reduceNeg, ↓reduceIte, if_true, if_false, Bool.false_eq_true, Bool.not_true, Bool.not_false, List.length_cons, List.length_nil, List.length_singleton, reduceCtorEq, Int.toNat_natCast, Nat.zero_add, Nat.add_zero, Int.add_sub_cancel, eq_self, List.drop_zero, List.drop_succ_cons, Option.some.injEq, Prod.mk.injEq, mkFnA, Bool.and_true, Bool.true_and, Bool.and_self, c6l0, h7, hgrid2]) | (refine does_goI_dec (fun _ => ?_) (fun _ => ?_)) | (refine does_goG_dec (fun _ => ?_) (fun _ => ?_)) | (refine does_goI (fun _ => ?_) (fun _ => ?_)) | (refine does_goG (fun _ => ?_) (fun _ => ?_)))
        refine ⟨_, _, _, by simp [hd, tupleOf], rfl, (hx01.trans hy1 (by omega)).set _ (by omega), by omega, ⟨q, (V.length : Int) - 1, v, rfl, by omega, ?_⟩⟩
        rw [if_pos hd]
        refine ⟨rfl, by omega, ?_⟩
        rw [← hQ, ← hK]
        exact (ho.rd (f := Value.bool) (old := oldOf w)).set _ (by omega)
  obtain ⟨v, s', hc, g, h', n', rfl, rfl, hq⟩ := key
  exact ⟨g, h', n', hc, hq⟩
end
end Go.Proofs.Ytepdkmdcainddaa
-- lib2
namespace Go.Proofs.Ytepdkmdcainddaa
open Go Go.Itp
set_option linter.unusedSimpArgs false
set_option linter.unusedVariables false
set_option maxRecDepth 100000
set_option maxHeartbeats 1000000
attribute [local irreducible] Does

theorem idx_lt {j x K Q : Nat} (hj : j < K) (hx : x < Q) : j * Q + x < K * Q := by
  have := Nat.mul_le_mul_right Q (show j + 1 ≤ K by omega)
  rw [Nat.succ_mul] at this
  omega
theorem bitsTo_get {q : Nat} {V : List (List Bool)} (hV : ∀ k, k < V.length → q ≤ V[k]!.length) : ∀ k, k ≤ V.length → ∀ y x, y < k → x < q → (bitsTo q V k)[y * q + x]! = V[y]![x]!
  | 0, _, y, x, hy, _ => by omega
  | k + 1, hk, y, x, hy, hx => by
    have hl := bitsTo_len hV k (by omega)
    have hv := hV k (by omega)
    rw [bitsTo_succ]
    by_cases e : y = k
    · subst e
      rw [get_app_r _ _ _ (by omega) (by rw [List.length_take]; omega), hl, show y * q + x - y * q = x by omega, take_get _ _ _ hx hv]
    · rw [get_app_l _ _ _ (by rw [hl]; exact idx_lt (by omega) hx)]
      exact bitsTo_get hV k (by omega) y x (by omega) hx
section
variable (w : World) (n : Nat) {vC : Value} {rs : List Value} {V : List (List Bool)} {h : Heap} {nx p : Nat}
theorem zero_w (a b N : Nat) (hN : (a : Int) * (b : Int) = N) (hb : N ≤ 100000) (hp : p ≤ nx) :
    ∃ h', (EN w (n + 1)).wcall 17 [.int .i64 a, .int .i64 b] ⟨h, nx, p⟩ = some (.agg [.int .i64 a, .int .i64 b, .slice (some ⟨nx + 1, 0, some 0⟩) N N].toArray, ⟨h', nx + 2, p⟩) ∧
      HX nx h h' ∧ hget h' (nx + 1) = some ⟨(List.replicate N false).map Value.bool, 1, false, 4⟩ := by
  have key : ∃ v s', (EN w (n + 1)).wcall 17 [.int .i64 a, .int .i64 b] ⟨h, nx, p⟩ = some (v, s') ∧ (∃ h', v = .agg [.int .i64 a, .int .i64 b, .slice (some ⟨nx + 1, 0, some 0⟩) N N].toArray ∧ s' = ⟨h', nx + 2, p⟩ ∧
      HX nx h h' ∧ hget h' (nx + 1) = some ⟨(List.replicate N false).map Value.bool, 1, false, 4⟩) := by
    refine wcall_ex rfl (Nat.le_of_ble_eq_true rfl) ?_
    repeat' (first | (simp (disch := first | omega | assumption | (exact id (by with_unfolding_all rfl)) | ((refine all_cons _ _ (by first | assumption | exact id (by with_unfolding_all rfl)) ?_); (repeat' (first | exact List.all_nil | refine all_cons _ _ (by first | assumption | exact id (by with_unfolding_all rfl)) ?_)); done) |  exact callP_old _ _ _ _ _ | exact one_int _ _ | exact one_bool _ | exact one_string _ | exact one_slice _ _ _ | exact one_pointer _ | exact hget_push_one _ _ _ _ (by omega) | (simp only [List.length_map, List.length_set, List.length_replicate, List.length_cons, List.length_nil]; omega) | (rw [hget_push_lt _ _ _ _ (by omega)]; first | assumption | exact hget_push_one _ _ _ _ (by omega))) only [WW0, WW1, WW2, WW3, WW4, WW5, WW6, WW7, Option.map_some, args0, slotsL, opdsA, List.cons_append, List.nil_append, List.map_cons, List.map_nil, List.append_nil, Option.toList_some, Option.toList_none, Nat.reduceEqDiff, Nat.reduceLT, Nat.reduceAdd, Nat.reduceBEq, Int.reduceAdd, Int.reduceSub, Int.reduceLT, Int.reduceLE, Int.reduceEq, Int.reduceNeg, ↓reduceIte, if_true, if_false, Bool.false_eq_true, Bool.not_true, Bool.not_false, List.length_cons, List.length_nil, List.length_singleton, reduceCtorEq, Int.toNat_natCast, Nat.zero_add, Nat.add_zero, Int.add_sub_cancel, eq_self, List.drop_zero, List.drop_succ_cons, Option.some.injEq, Prod.mk.injEq, mkFnA, Bool.and_true, Bool.true_and, Bool.and_self, zgrid, hN]) | (refine does_goI_dec (fun _ => ?_) (fun _ => ?_)) | (refine does_goG_dec (fun _ => ?_) (fun _ => ?_)) | (refine does_goI (fun _ => ?_) (fun _ => ?_)) | (refine does_goG (fun _ => ?_) (fun _ => ?_)))
    refine ⟨_, rfl, (((HX.refl _ _).push _ (Nat.le_refl _)).push _ (by omega)).set _ (Nat.le_refl _), ?_⟩
    rw [hget_set_ne _ _ _ _ (by omega)]
    exact hget_push_one _ _ _ _ rfl
  obtain ⟨v, s', hc, h', rfl, rfl, hq⟩ := key
  exact ⟨h', hc, hq⟩
theorem set_w (Q x y P N i : Nat) (b : Int) (z : Bool) (L : List Bool) (hP : (y : Int) * (Q : Int) = P) (hg : hget h i = some ⟨L.map Value.bool, 1, false, 4⟩) (hL : L.length = N) (hN : N ≤ 100000) (hx : P + x < N) (hi : i < nx) (hp : p ≤ i) :
    (EN w (n + 1)).wcall 18 [.agg [.int .i64 Q, .int .i64 b, .slice (some ⟨i, 0, some 0⟩) N N].toArray, .int .i64 x, .int .i64 y, .bool z] ⟨h, nx, p⟩ =
      some (.tuple #[], ⟨hset (hpush h nx [⟨[.int .i64 Q, .int .i64 b, .slice (some ⟨i, 0, some 0⟩) N N], 1, false, 29⟩]) i ⟨(L.set (P + x) z).map Value.bool, 1, false, 4⟩, nx + 1, p⟩) := by
  have key : ∃ v s', (EN w (n + 1)).wcall 18 [.agg [.int .i64 Q, .int .i64 b, .slice (some ⟨i, 0, some 0⟩) N N].toArray, .int .i64 x, .int .i64 y, .bool z] ⟨h, nx, p⟩ = some (v, s') ∧ (v = .tuple #[] ∧
      s' = ⟨hset (hpush h nx [⟨[.int .i64 Q, .int .i64 b, .slice (some ⟨i, 0, some 0⟩) N N], 1, false, 29⟩]) i ⟨(L.set (P + x) z).map Value.bool, 1, false, 4⟩, nx + 1, p⟩) := by
    refine wcall_ex rfl (Nat.le_of_ble_eq_true rfl) ?_
    have hz : ((P : Int) + (x : Int)).toNat = P + x := by omega
    have hg' : hget (hpush h nx [⟨[.int .i64 Q, .int .i64 b, .slice (some ⟨i, 0, some 0⟩) N N], 1, false, 29⟩]) i = some ⟨L.map Value.bool, 1, false, 4⟩ := by rw [hget_push_lt _ _ _ _ hi]; exact hg
    repeat' (first | (simp (disch := first | omega | assumption | (exact id (by with_unfolding_all rfl)) | ((refine all_cons _ _ (by first | assumption | exact id (by with_unfolding_all rfl)) ?_); (repeat' (first | exact List.all_nil | refine all_cons _ _ (by first | assumption | exact id (by with_unfolding_all rfl)) ?_)); done) |  exact callP_old _ _ _ _ _ | exact one_int _ _ | exact one_bool _ | exact one_string _ | exact one_slice _ _ _ | exact one_pointer _ | exact hget_push_one _ _ _ _ (by omega) | (simp only [List.length_map, List.length_set, List.length_replicate, List.length_cons, List.length_nil]; omega) | (rw [hget_push_lt _ _ _ _ (by omega)]; first | assumption | exact hget_push_one _ _ _ _ (by omega))) only [WW0, WW1, WW2, WW3, WW4, WW5, WW6, WW7, Option.map_some, args0, slotsL, opdsA, List.cons_append, List.nil_append, List.map_cons, List.map_nil, List.append_nil, Option.toList_some, Option.toList_none, Nat.reduceEqDiff, Nat.reduceLT, Nat.reduceAdd, Nat.reduceBEq, Int.reduceAdd, Int.reduceSub, Int.reduceLT, Int.reduceLE, Int.reduceEq, Int.reduceNeg, ↓reduceIte, if_true, if_false, Bool.false_eq_true, Bool.not_true, Bool.not_false, List.length_cons, List.length_nil, List.length_singleton, reduceCtorEq, Int.toNat_natCast, Nat.zero_add, Nat.add_zero, Int.add_sub_cancel, eq_self, List.drop_zero, List.drop_succ_cons, Option.some.injEq, Prod.mk.injEq, mkFnA, Bool.and_true, Bool.true_and, Bool.and_self, zgrid, hP, hz, hg']) | (refine does_goI_dec (fun _ => ?_) (fun _ => ?_)) | (refine does_goG_dec (fun _ => ?_) (fun _ => ?_)) | (refine does_goI (fun _ => ?_) (fun _ => ?_)) | (refine does_goG (fun _ => ?_) (fun _ => ?_)))
    all_goals first | rfl | exact ⟨rfl, rfl⟩
  obtain ⟨v, s', hc, rfl, rfl⟩ := key
  exact hc
theorem rdecode_w (t : CB w h nx vC rs V) (q : Int) (hq : -9223372036854775808 ≤ q ∧ q ≤ 9223372036854775807) (hp : p ≤ nx) :
    ∃ (g : Value) (h' : Heap) (n' : Nat), (EN w (n + 6)).wcall 7 [.agg [.int .i64 q, vC].toArray] ⟨h, nx, p⟩ = some (.tuple [g, .int .i64 (decE q V)].toArray, ⟨h', n', p⟩) ∧
      HX nx h h' ∧ nx ≤ n' ∧ GR w h' n' q V g := by
  have key : ∃ v s', (EN w (n + 6)).wcall 7 [.agg [.int .i64 q, vC].toArray] ⟨h, nx, p⟩ = some (v, s') ∧ (∃ (g : Value) (h' : Heap) (n' : Nat), v = .tuple [g, .int .i64 (decE q V)].toArray ∧ s' = ⟨h', n', p⟩ ∧
      HX nx h h' ∧ nx ≤ n' ∧ GR w h' n' q V g) := by
    refine wcall_ex rfl (Nat.le_of_ble_eq_true rfl) ?_
    have t' := (t.push [⟨[.int .i64 q, vC], 1, false, 24⟩] (nx' := nx + 1) (by omega)).push [⟨[.int .i64 0, .int .i64 0, .slice none 0 0], 1, false, 29⟩] (nx' := nx + 1 + 1) (by omega)
    have hx0 : HX nx h (hpush (hpush h nx [⟨[.int .i64 q, vC], 1, false, 24⟩]) (nx + 1) [⟨[.int .i64 0, .int .i64 0, .slice none 0 0], 1, false, 29⟩]) := ((HX.refl _ _).push _ (Nat.le_refl _)).push _ (by omega)
    have hlen := t.len
    have hlv := t.lv
    obtain ⟨a, b, h1, n1, hc, hx1, hn1, hrA, hrB, hbA, hbB, hfA, hfB⟩ := rwrong_w w n t' q hq (p := p) (by omega)
    have himp := fun xs s => imp (n + 4) 9 xs s w rfl
    have himpz := fun xs s => imp (n + 4) 17 xs s w rfl
    have himps := fun xs s => imp (n + 4) 18 xs s w rfl
    have hgrid : hget h1 (nx + 1) = some ⟨[.int .i64 0, .int .i64 0, .slice none 0 0], 1, false, 29⟩ := by rw [hx1 _ (by omega)]; exact hget_push_one _ _ _ _ rfl
    have hbox : hget h1 nx = some ⟨[.int .i64 q, vC], 1, false, 24⟩ := by rw [hx1 _ (by omega), hget_push_lt _ _ _ _ (by omega)]; exact hget_push_one _ _ _ _ rfl
    have ht1 := t'.hx hx1 hn1
    have hx01 : HX nx h h1 := hx0.trans hx1 (by omega)
    cases hv : validS q V
    · have he : ¬ wrongE q V = 0 := by simp [wrongE, hv]
      have hd : ¬ decE q V = 0 := by simp [decE, he]
      repeat' (first | (simp (disch := first | omega | assumption | (exact id (by with_unfolding_all rfl)) | ((refine all_cons _ _ (by first | assumption | exact id (by with_unfolding_all rfl)) ?_); (repeat' (first | exact List.all_nil | refine all_cons _ _ (by first | assumption | exact id (by with_unfolding_all rfl)) ?_)); done) |  exact callP_old _ _ _ _ _ | exact one_int _ _ | exact one_bool _ | exact one_string _ | exact one_slice _ _ _ | exact one_pointer _ | exact hget_push_one _ _ _ _ (by omega) | (simp only [List.length_map, List.length_set, List.length_replicate, List.length_cons, List.length_nil]; omega) | (rw [hget_push_lt _ _ _ _ (by omega)]; first | assumption | exact hget_push_one _ _ _ _ (by omega))) only [WW0, WW1, WW2, WW3, WW4, WW5, WW6, WW7, Option.map_some, args0, slotsL, opdsA, List.cons_append, List.nil_append, List.map_cons, List.map_nil, List.append_nil, Option.toList_some, Option.toList_none, Nat.reduceEqDiff, Nat.reduceLT, Nat.reduceAdd, Nat.reduceBEq, Int.reduceAdd, Int.reduceSub, Int.reduceLT, Int.reduceLE, Int.reduceEq, Int.reduceNeg, ↓reduceIte, if_true, if_false, Bool.false_eq_true, Bool.not_true, Bool.not_false, List.length_cons, List.length_nil, List.length_singleton, reduceCtorEq, Int.toNat_natCast, Nat.zero_add, Nat.add_zero, Int.add_sub_cancel, eq_self, List.drop_zero, List.drop_succ_cons, Option.some.injEq, Prod.mk.injEq, mkFnA, Bool.and_true, Bool.true_and, Bool.and_self, zchain, zgrid, himp, hc, hgrid]) | (refine does_goI_dec (fun _ => ?_) (fun _ => ?_)) | (refine does_goG_dec (fun _ => ?_) (fun _ => ?_)) | (refine does_goI (fun _ => ?_) (fun _ => ?_)) | (refine does_goG (fun _ => ?_) (fun _ => ?_)))
      exact ⟨_, _, _, by simp [decE, he, tupleOf]; rfl, rfl, hx01.set _ (by omega), by omega, ⟨0, 0, _, rfl, by simp [bidN, bidA], by rw [if_neg hd]; exact ⟨rfl, rfl, Rd.nil⟩⟩⟩
    have he : wrongE q V = 0 := by simp [wrongE, hv]
    obtain ⟨v1, v2, v3, v4, v5⟩ := valid_out hv
    have hla := sel_le (cardP V) V.length
    have hlb := sel_le (placeP V) (q + 1).toNat
    have hA : wrongA q V = sel (cardP V) V.length := by simp [wrongA, hv]
    have hB : wrongB q V = sel (placeP V) (q + 1).toNat := by simp [wrongB, hv]
    rw [← hA] at hla
    rw [← hB] at hlb
    by_cases hz : 0 < (wrongA q V).length + (wrongB q V).length
    · have hd : decE q V = 30 := by
        simp only [decE, he, if_true]
        rw [if_neg]
        rintro ⟨e1, e2⟩
        rw [e1, e2] at hz; simp at hz
      by_cases hz1 : 0 < (wrongA q V).length
      · repeat' (first | (simp (disch := first | omega | assumption | (exact id (by with_unfolding_all rfl)) | ((refine all_cons _ _ (by first | assumption | exact id (by with_unfolding_all rfl)) ?_); (repeat' (first | exact List.all_nil | refine all_cons _ _ (by first | assumption | exact id (by with_unfolding_all rfl)) ?_)); done) |  exact callP_old _ _ _ _ _ | exact one_int _ _ | exact one_bool _ | exact one_string _ | exact one_slice _ _ _ | exact one_pointer _ | exact hget_push_one _ _ _ _ (by omega) | (simp only [List.length_map, List.length_set, List.length_replicate, List.length_cons, List.length_nil]; omega) | (rw [hget_push_lt _ _ _ _ (by omega)]; first | assumption | exact hget_push_one _ _ _ _ (by omega))) only [WW0, WW1, WW2, WW3, WW4, WW5, WW6, WW7, Option.map_some, args0, slotsL, opdsA, List.cons_append, List.nil_append, List.map_cons, List.map_nil, List.append_nil, Option.toList_some, Option.toList_none, Nat.reduceEqDiff, Nat.reduceLT, Nat.reduceAdd, Nat.reduceBEq, Int.reduceAdd, Int.reduceSub, Int.reduceLT, Int.reduceLE, Int.reduceEq, Int.reduceNeg, ↓reduceIte, if_true, if_false, Bool.false_eq_true, Bool.not_true, Bool.not_false, List.length_cons, List.length_nil, List.length_singleton, reduceCtorEq, Int.toNat_natCast, Nat.zero_add, Nat.add_zero, Int.add_sub_cancel, eq_self, List.drop_zero, List.drop_succ_cons, Option.some.injEq, Prod.mk.injEq, mkFnA, Bool.and_true, Bool.true_and, Bool.and_self, zchain, zgrid, himp, hc, hgrid, hrA.len, hrB.len]) | (refine does_goI_dec (fun _ => ?_) (fun _ => ?_)) | (refine does_goG_dec (fun _ => ?_) (fun _ => ?_)) | (refine does_goI (fun _ => ?_) (fun _ => ?_)) | (refine does_goG (fun _ => ?_) (fun _ => ?_)))
        exact ⟨_, _, _, by simp [hd, tupleOf]; rfl, rfl, hx01.set _ (by omega), by omega, ⟨0, 0, _, rfl, by simp [bidN, bidA], by rw [if_neg (by rw [hd]; decide)]; exact ⟨rfl, rfl, Rd.nil⟩⟩⟩
      · repeat' (first | (simp (disch := first | omega | assumption | (exact id (by with_unfolding_all rfl)) | ((refine all_cons _ _ (by first | assumption | exact id (by with_unfolding_all rfl)) ?_); (repeat' (first | exact List.all_nil | refine all_cons _ _ (by first | assumption | exact id (by with_unfolding_all rfl)) ?_)); done) |  exact callP_old _ _ _ _ _ | exact one_int _ _ | exact one_bool _ | exact one_string _ | exact one_slice _ _ _ | exact one_pointer _ | exact hget_push_one _ _ _ _ (by omega) | (simp only [List.length_map, List.length_set, List.length_replicate, List.length_cons, List.length_nil]; omega) | (rw [hget_push_lt _ _ _ _ (by omega)]; first | assumption | exact hget_push_one _ _ _ _ (by omega))) only [WW0, WW1, WW2, WW3, WW4, WW5, WW6, WW7, Option.map_some, args0, slotsL, opdsA, List.cons_append, List.nil_append, List.map_cons, List.map_nil, List.append_nil, Option.toList_some, Option.toList_none, Nat.reduceEqDiff, Nat.reduceLT, Nat.reduceAdd, Nat.reduceBEq, Int.reduceAdd, Int.reduceSub, Int.reduceLT, Int.reduceLE, Int.reduceEq, Int.reduceNeg, ↓reduceIte, if_true, if_false, Bool.false_eq_true, Bool.not_true, Bool.not_false, List.length_cons, List.length_nil, List.length_singleton, reduceCtorEq, Int.toNat_natCast, Nat.zero_add, Nat.add_zero, Int.add_sub_cancel, eq_self, List.drop_zero, List.drop_succ_cons, Option.some.injEq, Prod.mk.injEq, mkFnA, Bool.and_true, Bool.true_and, Bool.and_self, zchain, zgrid, himp, hc, hgrid, hrA.len, hrB.len]) | (refine does_goI_dec (fun _ => ?_) (fun _ => ?_)) | (refine does_goG_dec (fun _ => ?_) (fun _ => ?_)) | (refine does_goI (fun _ => ?_) (fun _ => ?_)) | (refine does_goG (fun _ => ?_) (fun _ => ?_)))
        exact ⟨_, _, _, by simp [hd, tupleOf]; rfl, rfl, hx01.set _ (by omega), by omega, ⟨0, 0, _, rfl, by simp [bidN, bidA], by rw [if_neg (by rw [hd]; decide)]; exact ⟨rfl, rfl, Rd.nil⟩⟩⟩
    have hd : decE q V = 0 := by
      simp only [decE, he, if_true]
      rw [if_pos ⟨List.length_eq_zero_iff.1 (by omega), List.length_eq_zero_iff.1 (by omega)⟩]
    obtain ⟨K, hK⟩ : ∃ K, K = V.length - 1 := ⟨_, rfl⟩
    obtain ⟨Q, hQ⟩ : ∃ Q, Q = q.toNat := ⟨_, rfl⟩
    have hKi : (V.length : Int) - 1 = K := by omega
    have hqi : q = Q := by omega
    subst hqi
    have hbl := bitsTo_len (q := Q) (V := V) fun k hk => by have := v5 k hk; omega
    have hbg := bitsTo_get (q := Q) (V := V) fun k hk => by have := v5 k hk; omega
    have hbv := ht1.bv
    obtain ⟨N, hN⟩ : ∃ N, N = K * Q := ⟨_, rfl⟩
    have hNb : N ≤ 65 * 40 := by rw [hN]; exact Nat.mul_le_mul (by omega) (by omega)
    obtain ⟨h2, hz1, hz2, hz3⟩ := zero_w w (n + 4) (h := h1) (nx := n1) (p := p) Q K N (by rw [hN, Nat.mul_comm, Int.natCast_mul]) (by omega) (by omega)
    have hbox2 : hget h2 nx = some ⟨[.int .i64 Q, vC], 1, false, 24⟩ := by rw [hz2 _ (by omega)]; exact hbox
    repeat' (first | (simp (disch := first | omega | assumption | (exact id (by with_unfolding_all rfl)) | ((refine all_cons _ _ (by first | assumption | exact id (by with_unfolding_all rfl)) ?_); (repeat' (first | exact List.all_nil | refine all_cons _ _ (by first | assumption | exact id (by with_unfolding_all rfl)) ?_)); done) |  exact callP_old _ _ _ _ _ | exact one_int _ _ | exact one_bool _ | exact one_string _ | exact one_slice _ _ _ | exact one_pointer _ | exact hget_push_one _ _ _ _ (by omega) | (simp only [List.length_map, List.length_set, List.length_replicate, List.length_cons, List.length_nil]; omega) | (rw [hget_push_lt _ _ _ _ (by omega)]; first | assumption | exact hget_push_one _ _ _ _ (by omega))) only [WW0, WW1, WW2, WW3, WW4, WW5, WW6, WW7, Option.map_some, args0, slotsL, opdsA, List.cons_append, List.nil_append, List.map_cons, List.map_nil, List.append_nil, Option.toList_some, Option.toList_none, Nat.reduceEqDiff, Nat.reduceLT, Nat.reduceAdd, Nat.reduceBEq, Int.reduceAdd, Int.reduceSub, Int.reduceLT, Int.reduceLE, Int.reduceEq, Int.reduceNeg, ↓reduceIte, if_true, if_false, Bool.false_eq_true, Bool.not_true, Bool.not_false, List.length_cons, List.length_nil, List.length_singleton, reduceCtorEq, Int.toNat_natCast, Nat.zero_add, Nat.add_zero, Int.add_sub_cancel, eq_self, List.drop_zero, List.drop_succ_cons, Option.some.injEq, Prod.mk.injEq, mkFnA, Bool.and_true, Bool.true_and, Bool.and_self, zchain, zgrid, himp, hc, hgrid, hbox, hrA.len, hrB.len, ht1.v.len, hlen, hKi, himpz, hz1]) | (refine does_goI_dec (fun _ => ?_) (fun _ => ?_)) | (refine does_goG_dec (fun _ => ?_) (fun _ => ?_)) | (refine does_goI (fun _ => ?_) (fun _ => ?_)) | (refine does_goG (fun _ => ?_) (fun _ => ?_)))
    refine does_while (fun m fr t => ∃ (j : Nat) (L : List Bool) (h3 : Heap) (n3 : Nat), m = K - j ∧ j ≤ K ∧ fr = [(1, .pointer (some ⟨nx, 0, some 0⟩)), (2, .pointer (some ⟨nx + 1, 0, some 0⟩)), (7, .pointer (some ⟨n1 + 2, 0, some 0⟩)), (8, .int .i64 j)] ∧ t = ⟨h3, n3, p⟩ ∧
      HX n1 h1 h3 ∧ n1 + 3 ≤ n3 ∧ hget h3 (n1 + 2) = some ⟨[.int .i64 Q, .int .i64 K, .slice (some ⟨n1 + 1, 0, some 0⟩) N N], 1, false, 29⟩ ∧ hget h3 (n1 + 1) = some ⟨L.map Value.bool, 1, false, 4⟩ ∧ L.length = N ∧
      ∀ y x, y < j → x < Q → L[y * Q + x]! = V[y]![x]!) (m := K) ?_ ?_ ?_
    · refine ⟨0, List.replicate N false, _, _, (Nat.sub_zero _).symm, Nat.zero_le _, rfl, rfl, (hz2.push _ (by omega)).set _ (by omega), Nat.le_refl _, by rw [hget_set_self, hget_push_one _ _ _ _ rfl]; rfl, ?_, List.length_replicate, by omega⟩
      rw [hget_set_ne _ _ _ _ (by omega), hget_push_lt _ _ _ _ (by omega)]; exact hz3
    · simp (disch := first | omega | assumption | (exact id (by with_unfolding_all rfl)) | ((refine all_cons _ _ (by first | assumption | exact id (by with_unfolding_all rfl)) ?_); (repeat' (first | exact List.all_nil | refine all_cons _ _ (by first | assumption | exact id (by with_unfolding_all rfl)) ?_)); done) |  exact callP_old _ _ _ _ _ | exact one_int _ _ | exact one_bool _ | exact one_string _ | exact one_slice _ _ _ | exact one_pointer _ | exact hget_push_one _ _ _ _ (by omega) | (simp only [List.length_map, List.length_set, List.length_replicate, List.length_cons, List.length_nil]; omega) | (rw [hget_push_lt _ _ _ _ (by omega)]; first | assumption | exact hget_push_one _ _ _ _ (by omega))) only [WW0, WW1, WW2, WW3, WW4, WW5, WW6, WW7, Option.map_some, args0, slotsL, opdsA, List.cons_append, List.nil_append, List.map_cons, List.map_nil, List.append_nil, Option.toList_some, Option.toList_none, Nat.reduceEqDiff, Nat.reduceLT, Nat.reduceAdd, Nat.reduceBEq, Int.reduceAdd, Int.reduceSub, Int.reduceLT, Int.reduceLE, Int.reduceEq, Int.reduceNeg, ↓reduceIte, if_true, if_false, Bool.false_eq_true, Bool.not_true, Bool.not_false, List.length_cons, List.length_nil, List.length_singleton, reduceCtorEq, Int.toNat_natCast, Nat.zero_add, Nat.add_zero, Int.add_sub_cancel, eq_self, List.drop_zero, List.drop_succ_cons, Option.some.injEq, Prod.mk.injEq, mkFnA, Bool.and_true, Bool.true_and, Bool.and_self]
      unfold many; omega
    · rintro m fr tt ⟨j, L, h3, n3, rfl, hj, rfl, rfl, hy1, hm1, hg7, hg6, hL, hall⟩
      by_cases hlt : j < K
      · repeat' (first | (simp (disch := first | omega | assumption | (exact id (by with_unfolding_all rfl)) | ((refine all_cons _ _ (by first | assumption | exact id (by with_unfolding_all rfl)) ?_); (repeat' (first | exact List.all_nil | refine all_cons _ _ (by first | assumption | exact id (by with_unfolding_all rfl)) ?_)); done) |  exact callP_old _ _ _ _ _ | exact one_int _ _ | exact one_bool _ | exact one_string _ | exact one_slice _ _ _ | exact one_pointer _ | exact hget_push_one _ _ _ _ (by omega) | (simp only [List.length_map, List.length_set, List.length_replicate, List.length_cons, List.length_nil]; omega) | (rw [hget_push_lt _ _ _ _ (by omega)]; first | assumption | exact hget_push_one _ _ _ _ (by omega))) only [WW0, WW1, WW2, WW3, WW4, WW5, WW6, WW7, Option.map_some, args0, slotsL, opdsA, List.cons_append, List.nil_append, List.map_cons, List.map_nil, List.append_nil, Option.toList_some, Option.toList_none, Nat.reduceEqDiff, Nat.reduceLT, Nat.reduceAdd, Nat.reduceBEq, Int.reduceAdd, Int.reduceSub, Int.reduceLT, Int.reduceLE, Int.reduceEq, Int.reduceNeg, ↓reduceIte, if_true, if_false, Bool.false_eq_true, Bool.not_true, Bool.not_false, List.length_cons, List.length_nil, List.length_singleton, reduceCtorEq, Int.toNat_natCast, Nat.zero_add, Nat.add_zero, Int.add_sub_cancel, eq_self, List.drop_zero, List.drop_succ_cons, Option.some.injEq, Prod.mk.injEq, mkFnA, Bool.and_true, Bool.true_and, Bool.and_self, c7l1, hg7]) | (refine does_goI_dec (fun _ => ?_) (fun _ => ?_)) | (refine does_goG_dec (fun _ => ?_) (fun _ => ?_)) | (refine does_goI (fun _ => ?_) (fun _ => ?_)) | (refine does_goG (fun _ => ?_) (fun _ => ?_)))
        refine does_while (fun m fr t => ∃ (x : Nat) (L : List Bool) (h3 : Heap) (n3 : Nat), m = Q - x ∧ x ≤ Q ∧ fr = [(1, .pointer (some ⟨nx, 0, some 0⟩)), (2, .pointer (some ⟨nx + 1, 0, some 0⟩)), (7, .pointer (some ⟨n1 + 2, 0, some 0⟩)), (8, .int .i64 j), (9, .int .i64 x)] ∧ t = ⟨h3, n3, p⟩ ∧
          HX n1 h1 h3 ∧ n1 + 3 ≤ n3 ∧ hget h3 (n1 + 2) = some ⟨[.int .i64 Q, .int .i64 K, .slice (some ⟨n1 + 1, 0, some 0⟩) N N], 1, false, 29⟩ ∧ hget h3 (n1 + 1) = some ⟨L.map Value.bool, 1, false, 4⟩ ∧ L.length = N ∧
          (∀ y x, y < j → x < Q → L[y * Q + x]! = V[y]![x]!) ∧ ∀ x', x' < x → L[j * Q + x']! = V[j]![x']!) (m := Q) ?_ ?_ ?_
        · exact ⟨0, _, _, _, (Nat.sub_zero _).symm, Nat.zero_le _, rfl, rfl, hy1, hm1, hg7, hg6, hL, hall, by omega⟩
        · simp (disch := first | omega | assumption | (exact id (by with_unfolding_all rfl)) | ((refine all_cons _ _ (by first | assumption | exact id (by with_unfolding_all rfl)) ?_); (repeat' (first | exact List.all_nil | refine all_cons _ _ (by first | assumption | exact id (by with_unfolding_all rfl)) ?_)); done) |  exact callP_old _ _ _ _ _ | exact one_int _ _ | exact one_bool _ | exact one_string _ | exact one_slice _ _ _ | exact one_pointer _ | exact hget_push_one _ _ _ _ (by omega) | (simp only [List.length_map, List.length_set, List.length_replicate, List.length_cons, List.length_nil]; omega) | (rw [hget_push_lt _ _ _ _ (by omega)]; first | assumption | exact hget_push_one _ _ _ _ (by omega))) only [WW0, WW1, WW2, WW3, WW4, WW5, WW6, WW7, Option.map_some, args0, slotsL, opdsA, List.cons_append, List.nil_append, List.map_cons, List.map_nil, List.append_nil, Option.toList_some, Option.toList_none, Nat.reduceEqDiff, Nat.reduceLT, Nat.reduceAdd, Nat.reduceBEq, Int.reduceAdd, Int.reduceSub, Int.reduceLT, Int.reduceLE, Int.reduceEq, Int.reduceNeg, ↓reduceIte, if_true, if_false, Bool.false_eq_true, Bool.not_true, Bool.not_false, List.length_cons, List.length_nil, List.length_singleton, reduceCtorEq, Int.toNat_natCast, Nat.zero_add, Nat.add_zero, Int.add_sub_cancel, eq_self, List.drop_zero, List.drop_succ_cons, Option.some.injEq, Prod.mk.injEq, mkFnA, Bool.and_true, Bool.true_and, Bool.and_self]
          unfold many; omega
        · clear hy1 hm1 hg7 hg6 hL hall L h3 n3
          rintro m fr tt ⟨x, L, h3, n3, rfl, hx, rfl, rfl, hy1, hm1, hg7, hg6, hL, hall, hrow⟩
          have ht3 := ht1.hx hy1 (nx' := n3) (by omega)
          have hbox3 : hget h3 nx = some ⟨[.int .i64 Q, vC], 1, false, 24⟩ := by rw [hy1 _ (by omega)]; exact hbox
          by_cases hxl : x < Q
          · have hr := ht3.r j (by omega)
            have hvx := v5 j (by omega)
            obtain ⟨P, hP⟩ : ∃ P, P = j * Q := ⟨_, rfl⟩
            have hPx : P + x < N := by rw [hP, hN]; exact Go.Proofs.Ytepdkmdcainddaa.idx_lt hlt hxl
            have hset := set_w w (n + 4) (h := h3) (nx := n3) (p := p) Q x j P N (n1 + 1) K V[j]![x]! L (by rw [hP, Int.natCast_mul]) hg6 hL (by omega) hPx (by omega) (by omega)
            repeat' (first | (simp (disch := first | omega | assumption | (exact id (by with_unfolding_all rfl)) | ((refine all_cons _ _ (by first | assumption | exact id (by with_unfolding_all rfl)) ?_); (repeat' (first | exact List.all_nil | refine all_cons _ _ (by first | assumption | exact id (by with_unfolding_all rfl)) ?_)); done) |  exact callP_old _ _ _ _ _ | exact one_int _ _ | exact one_bool _ | exact one_string _ | exact one_slice _ _ _ | exact one_pointer _ | exact hget_push_one _ _ _ _ (by omega) | (simp only [List.length_map, List.length_set, List.length_replicate, List.length_cons, List.length_nil]; omega) | (rw [hget_push_lt _ _ _ _ (by omega)]; first | assumption | exact hget_push_one _ _ _ _ (by omega))) only [WW0, WW1, WW2, WW3, WW4, WW5, WW6, WW7, Option.map_some, args0, slotsL, opdsA, List.cons_append, List.nil_append, List.map_cons, List.map_nil, List.append_nil, Option.toList_some, Option.toList_none, Nat.reduceEqDiff, Nat.reduceLT, Nat.reduceAdd, Nat.reduceBEq, Int.reduceAdd, Int.reduceSub, Int.reduceLT, Int.reduceLE, Int.reduceEq, Int.reduceNeg, ↓reduceIte, if_true, if_false, Bool.false_eq_true, Bool.not_true, Bool.not_false, List.length_cons, List.length_nil, List.length_singleton, reduceCtorEq, Int.toNat_natCast, Nat.zero_add, Nat.add_zero, Int.add_sub_cancel, eq_self, List.drop_zero, List.drop_succ_cons, Option.some.injEq, Prod.mk.injEq, mkFnA, Bool.and_true, Bool.true_and, Bool.and_self, c7l0, hg7, hbox3, ht3.v.idx, ht3.v.load, hr.idx, hr.load, himps, hset]) | (refine does_goI_dec (fun _ => ?_) (fun _ => ?_)) | (refine does_goG_dec (fun _ => ?_) (fun _ => ?_)) | (refine does_goI (fun _ => ?_) (fun _ => ?_)) | (refine does_goG (fun _ => ?_) (fun _ => ?_)))
            refine ⟨_, ?_, x + 1, L.set (P + x) V[j]![x]!, _, _, rfl, hxl, by simp, rfl, (hy1.push _ (by omega)).set _ (by omega), by omega, ?_, ?_, by simpa using hL, ?_, ?_⟩
            · omega
            · rw [hget_set_ne _ _ _ _ (by omega), hget_push_lt _ _ _ _ (by omega)]; exact hg7
            · rw [hget_set_self, hget_push_lt _ _ _ _ (by omega), hg6]; rfl
            · intro y x' hy hx'
              rw [get_set_ne _ _ _ _ (by have := Go.Proofs.Ytepdkmdcainddaa.idx_lt hy hx'; omega)]
              exact hall y x' hy hx'
            · intro x' hx'
              by_cases e : x' = x
              · subst e
                rw [← hP, get_set_eq _ _ _ (by omega)]
              · rw [← hP, get_set_ne _ _ _ _ (by omega), hP]
                exact hrow x' (by omega)
          · have : x = Q := by omega
            subst this
            repeat' (first | (simp (disch := first | omega | assumption | (exact id (by with_unfolding_all rfl)) | ((refine all_cons _ _ (by first | assumption | exact id (by with_unfolding_all rfl)) ?_); (repeat' (first | exact List.all_nil | refine all_cons _ _ (by first | assumption | exact id (by with_unfolding_all rfl)) ?_)); done) |  exact callP_old _ _ _ _ _ | exact one_int _ _ | exact one_bool _ | exact one_string _ | exact one_slice _ _ _ | exact one_pointer _ | exact hget_push_one _ _ _ _ (by omega) | (simp only [List.length_map, List.length_set, List.length_replicate, List.length_cons, List.length_nil]; omega) | (rw [hget_push_lt _ _ _ _ (by omega)]; first | assumption | exact hget_push_one _ _ _ _ (by omega))) only [WW0, WW1, WW2, WW3, WW4, WW5, WW6, WW7, Option.map_some, args0, slotsL, opdsA, List.cons_append, List.nil_append, List.map_cons, List.map_nil, List.append_nil, Option.toList_some, Option.toList_none, Nat.reduceEqDiff, Nat.reduceLT, Nat.reduceAdd, Nat.reduceBEq, Int.reduceAdd, Int.reduceSub, Int.reduceLT, Int.reduceLE, Int.reduceEq, Int.reduceNeg, ↓reduceIte, if_true, if_false, Bool.false_eq_true, Bool.not_true, Bool.not_false, List.length_cons, List.length_nil, List.length_singleton, reduceCtorEq, Int.toNat_natCast, Nat.zero_add, Nat.add_zero, Int.add_sub_cancel, eq_self, List.drop_zero, List.drop_succ_cons, Option.some.injEq, Prod.mk.injEq, mkFnA, Bool.and_true, Bool.true_and, Bool.and_self, c7l0, hg7]) | (refine does_goI_dec (fun _ => ?_) (fun _ => ?_)) | (refine does_goG_dec (fun _ => ?_) (fun _ => ?_)) | (refine does_goI (fun _ => ?_) (fun _ => ?_)) | (refine does_goG (fun _ => ?_) (fun _ => ?_)))
            refine ⟨_, ?_, j + 1, L, _, _, rfl, hlt, by simp, rfl, hy1, hm1, hg7, hg6, hL, ?_⟩
            · omega
            · intro y x' hy hx'
              by_cases e : y = j
              · subst e; exact hrow x' hx'
              · exact hall y x' (by omega) hx'
      · have : j = K := by omega
        subst this
        have hgrid3 : hget h3 (nx + 1) = some ⟨[.int .i64 0, .int .i64 0, .slice none 0 0], 1, false, 29⟩ := by rw [hy1 _ (by omega)]; exact hgrid
        have hLe : L = bitsTo Q V j := by
          have hlen2 := hbl j (by omega)
          refine list_ext (by rw [hL, hN, hlen2]) fun i hi => ?_
          have hQ0 : 0 < Q := by omega
          have hy : i / Q < j := by rw [Nat.div_lt_iff_lt_mul hQ0]; omega
          have e := Nat.div_add_mod i Q
          rw [Nat.mul_comm] at e
          have e1 := hall (i / Q) (i % Q) hy (Nat.mod_lt _ hQ0)
          have e2 := hbg j (by omega) (i / Q) (i % Q) hy (Nat.mod_lt _ hQ0)
          rw [e] at e1 e2
          rw [e1, e2]
        repeat' (first | (simp (disch := first | omega | assumption | (exact id (by with_unfolding_all rfl)) | ((refine all_cons _ _ (by first | assumption | exact id (by with_unfolding_all rfl)) ?_); (repeat' (first | exact List.all_nil | refine all_cons _ _ (by first | assumption | exact id (by with_unfolding_all rfl)) ?_)); done) |  exact callP_old _ _ _ _ _ | exact one_int _ _ | exact one_bool _ | exact one_string _ | exact one_slice _ _ _ | exact one_pointer _ | exact hget_push_one _ _ _ _ (by omega) | (simp only [List.length_map, List.length_set, List.length_replicate, List.length_cons, List.length_nil]; omega) | (rw [hget_push_lt _ _ _ _ (by omega)]; first | assumption | exact hget_push_one _ _ _ _ (by omega))) only [WW0, WW1, WW2, WW3, WW4, WW5, WW6, WW7, Option.map_some, args0, slotsL, opdsA, List.cons_append, List.nil_append, List.map_cons, List.map_nil, List.append_nil, Option.toList_some, Option.toList_none, Nat.reduceEqDiff, Nat.reduceLT, Nat.reduceAdd, Nat.reduceBEq, Int.reduceAdd, Int.reduceSub, Int.reduceLT, Int.reduceLE, Int.reduceEq, Int.reduceNeg, ↓reduceIte, if_true, if_false, Bool.false_eq_true, Bool.not_true, Bool.not_false, List.length_cons, List.length_nil, List.length_singleton, reduceCtorEq, Int.toNat_natCast, Nat.zero_add, Nat.add_zero, Int.add_sub_cancel, eq_self, List.drop_zero, List.drop_succ_cons, Option.some.injEq, Prod.mk.injEq, mkFnA, Bool.and_true, Bool.true_and, Bool.and_self, c7l1, hg7, hgrid3]) | (refine does_goI_dec (fun _ => ?_) (fun _ => ?_)) | (refine does_goG_dec (fun _ => ?_) (fun _ => ?_)) | (refine does_goI (fun _ => ?_) (fun _ => ?_)) | (refine does_goG (fun _ => ?_) (fun _ => ?_)))
        refine ⟨.agg [.int .i64 Q, .int .i64 j, .slice (some ⟨n1 + 1, 0, some 0⟩) N N].toArray, _, _, by simp [hd, tupleOf], rfl, (hx01.trans hy1 (by omega)).set _ (by omega), by omega, ⟨Q, j, .slice (some ⟨n1 + 1, 0, some 0⟩) N N, rfl, by simp only [bidN, bidA]; omega, ?_⟩⟩
        rw [if_pos hd]
        refine ⟨rfl, by omega, ?_⟩
        rw [← hQ, ← hK, ← hLe]
        refine Rd.newS (e := 1) (g := false) (t := 4) ?_ hL.symm (by omega)
        rw [hget_set_ne _ _ _ _ (by omega)]; exact hg6
  obtain ⟨v, s', hc, g, h', n', rfl, rfl, hq⟩ := key
  exact ⟨g, h', n', hc, hq⟩
end
end Go.Proofs.Ytepdkmdcainddaa
