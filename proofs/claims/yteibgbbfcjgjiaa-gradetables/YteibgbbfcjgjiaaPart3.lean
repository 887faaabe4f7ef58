/- The law GradeTables returns true for every input; no condition.
   Texts: C40, P40a.
-/
import Derived.Test.YteibgbbfcjgjiaaPart2
import Derived.Test.YteibgbbfcjgjiaaProg
/- The seat's functions as the interpreter runs them: written by a program out of the loaded form, and shown equal to it below. -/
namespace Go.Proofs.Yteibgbbfcjgjiaa
open Go Go.Itp
set_option maxRecDepth 100000
/- raddle/raddlelaw40.GradeTables -/
def c3 : AFun := ⟨
  .seq (.ops [⟨(some 4), none, .box 25 (.tmp 0)⟩,
      ⟨(some 8), none, .mov (.const (.bool false))⟩] [1, 2, 3, 4])
  (.seq (.seq (.ops [⟨(some 17), none, .load (some 3) (.tmp 4)⟩,
      ⟨(some 18), none, .callF 5 [(.tmp 17)]⟩,
      ⟨(some 19), none, .mov (.tmp 18)⟩,
      ⟨(some 20), (some (19, false)), .mov (.tmp 1)⟩,
      ⟨(some 21), (some (19, false)), .len true (.tmp 20)⟩,
      ⟨(some 22), (some (19, false)), .bin .gtr (.tmp 21) (.const (.int .i64 100))⟩,
      ⟨(some 23), none, .pick (.tmp 19) (.const (.bool true)) (.tmp 22)⟩,
      ⟨(some 24), none, .mov (.tmp 23)⟩,
      ⟨(some 25), (some (24, false)), .mov (.tmp 2)⟩,
      ⟨(some 26), (some (24, false)), .len true (.tmp 25)⟩,
      ⟨(some 27), (some (24, false)), .bin .gtr (.tmp 26) (.const (.int .i64 100))⟩,
      ⟨(some 28), none, .pick (.tmp 24) (.const (.bool true)) (.tmp 27)⟩] [1, 2, 3, 4, 28])
  (.cond (.tmp 28)
    (.seq (.ops [⟨(some 8), none, .mov (.const (.bool true))⟩] [8])
    (.ret))
    (.skip)))
  (.seq (.ops [⟨(some 30), none, .load (some 3) (.tmp 4)⟩,
      ⟨(some 31), none, .mov (.tmp 1)⟩,
      ⟨(some 32), none, .mov (.tmp 2)⟩,
      ⟨(some 33), none, .callF 6 [(.tmp 30), (.tmp 31), (.tmp 32)]⟩,
      ⟨(some 29), none, .mov (.tmp 33)⟩,
      ⟨(some 34), none, .ext (.tmp 29) 0⟩,
      ⟨(some 35), none, .ext (.tmp 29) 1⟩,
      ⟨(some 9), none, .mov (.tmp 34)⟩,
      ⟨(some 10), none, .mov (.tmp 35)⟩] [1, 2, 3, 4, 9, 10])
  (.seq (.ops [⟨(some 37), none, .load (some 3) (.tmp 4)⟩,
      ⟨(some 38), none, .mov (.tmp 1)⟩,
      ⟨(some 39), none, .mov (.tmp 2)⟩,
      ⟨(some 40), none, .callF 7 [(.tmp 37), (.tmp 38), (.tmp 39)]⟩,
      ⟨(some 36), none, .mov (.tmp 40)⟩,
      ⟨(some 41), none, .ext (.tmp 36) 0⟩,
      ⟨(some 42), none, .ext (.tmp 36) 1⟩,
      ⟨(some 11), none, .mov (.tmp 41)⟩,
      ⟨(some 12), none, .mov (.tmp 42)⟩] [1, 3, 4, 9, 10, 11, 12])
  (.seq (.ops [⟨(some 44), none, .load (some 3) (.tmp 4)⟩,
      ⟨(some 45), none, .mov (.tmp 1)⟩,
      ⟨(some 46), none, .mov (.tmp 3)⟩,
      ⟨(some 47), none, .callF 8 [(.tmp 44), (.tmp 45), (.tmp 46)]⟩,
      ⟨(some 43), none, .mov (.tmp 47)⟩,
      ⟨(some 48), none, .ext (.tmp 43) 0⟩,
      ⟨(some 49), none, .ext (.tmp 43) 1⟩,
      ⟨(some 13), none, .mov (.tmp 48)⟩,
      ⟨(some 14), none, .mov (.tmp 49)⟩] [1, 3, 4, 9, 10, 11, 12, 13, 14])
  (.seq (.ops [⟨(some 51), none, .load (some 3) (.tmp 4)⟩,
      ⟨(some 52), none, .mov (.tmp 1)⟩,
      ⟨(some 53), none, .mov (.tmp 3)⟩,
      ⟨(some 54), none, .callF 9 [(.tmp 51), (.tmp 52), (.tmp 53)]⟩,
      ⟨(some 50), none, .mov (.tmp 54)⟩,
      ⟨(some 55), none, .ext (.tmp 50) 0⟩,
      ⟨(some 56), none, .ext (.tmp 50) 1⟩,
      ⟨(some 15), none, .mov (.tmp 55)⟩,
      ⟨(some 16), none, .mov (.tmp 56)⟩] [4, 9, 10, 11, 12, 13, 14, 15, 16])
  (.seq (.draw [⟨(some 57), none, .load (some 3) (.tmp 4)⟩,
      ⟨(some 58), none, .callF 10 [(.tmp 57)]⟩,
      ⟨(some 59), none, .load (some 3) (.tmp 4)⟩,
      ⟨(some 60), none, .callF 11 [(.tmp 59)]⟩,
      ⟨(some 61), none, .bin .eql (.tmp 58) (.tmp 60)⟩,
      ⟨(some 62), none, .mov (.tmp 61)⟩,
      ⟨(some 63), (some (62, true)), .mov (.tmp 9)⟩,
      ⟨(some 64), (some (62, true)), .mov (.tmp 11)⟩,
      ⟨(some 65), (some (62, true)), .bin .eql (.tmp 63) (.tmp 64)⟩,
      ⟨(some 66), none, .pick (.tmp 62) (.tmp 65) (.const (.bool false))⟩,
      ⟨(some 67), none, .mov (.tmp 66)⟩,
      ⟨(some 68), (some (67, true)), .mov (.tmp 10)⟩,
      ⟨(some 69), (some (67, true)), .mov (.tmp 12)⟩,
      ⟨(some 70), (some (67, true)), .bin .eql (.tmp 68) (.tmp 69)⟩,
      ⟨(some 71), none, .pick (.tmp 67) (.tmp 70) (.const (.bool false))⟩,
      ⟨(some 72), none, .mov (.tmp 71)⟩,
      ⟨(some 73), (some (72, true)), .mov (.tmp 13)⟩,
      ⟨(some 74), (some (72, true)), .mov (.tmp 15)⟩,
      ⟨(some 75), (some (72, true)), .bin .eql (.tmp 73) (.tmp 74)⟩,
      ⟨(some 76), none, .pick (.tmp 72) (.tmp 75) (.const (.bool false))⟩,
      ⟨(some 77), none, .mov (.tmp 76)⟩,
      ⟨(some 78), (some (77, true)), .mov (.tmp 14)⟩,
      ⟨(some 79), (some (77, true)), .mov (.tmp 16)⟩] [⟨(some 80), (some (77, true)), .bin .eql (.tmp 78) (.tmp 79)⟩,
      ⟨(some 81), none, .pick (.tmp 77) (.tmp 80) (.const (.bool false))⟩,
      ⟨(some 8), none, .mov (.tmp 81)⟩] [[], [], [false, false], [], [], [], [], [], [], [], [], [], [], [], [], [], [], [], [], [], [], [], []] [8])
  (.ret))))))),
  82, [(8, none)], true⟩
/- raddle/raddlelaw40.GradeGrows -/
def c4l0 : AC :=
  .seq (.seq (.ops [⟨(some 48), none, .mov (.tmp 14)⟩,
          ⟨(some 49), none, .fldA 2 (.tmp 6)⟩,
          ⟨(some 50), none, .load none (.tmp 49)⟩,
          ⟨(some 51), none, .len false (.tmp 50)⟩,
          ⟨(some 52), none, .bin .lss (.tmp 48) (.tmp 51)⟩] [1, 2, 3, 4, 5, 6, 13, 14, 52])
      (.cond (.tmp 52)
        (.skip)
        (.exit 0)))
      (.seq (.block 1
        (.draw [⟨(some 55), none, .fldA 2 (.tmp 13)⟩,
            ⟨(some 56), none, .load none (.tmp 55)⟩,
            ⟨(some 57), none, .mkRow 3 1 0 [(.int .i64 0)] []⟩,
            ⟨(some 58), none, .fldA 2 (.tmp 6)⟩,
            ⟨(some 59), none, .load none (.tmp 58)⟩,
            ⟨(some 60), none, .mov (.tmp 14)⟩,
            ⟨(some 61), none, .idxS 1 (.tmp 59) (.tmp 60)⟩,
            ⟨(some 62), none, .load none (.tmp 61)⟩,
            ⟨(some 63), none, .app 3 1 8 (.tmp 57) (.tmp 62)⟩,
            ⟨(some 64), none, .mkRow 39 1 1 [(.slice none 0 0)] [(0, 1, (.tmp 63))]⟩] [⟨(some 65), none, .app 39 1 24 (.tmp 56) (.tmp 64)⟩,
            ⟨(some 66), none, .fldA 2 (.tmp 13)⟩,
            ⟨none, none, .store 1 (.tmp 66) (.tmp 65)⟩] [[], [], [], [false, false, false], [true, false, false, false], [false, false, false, false, false], [true, true, true, false, false, false], [true, true, true, true, false, false, false], [], []] [1, 2, 3, 4, 5, 6, 13, 14]))
      (.ops [⟨(some 53), none, .mov (.tmp 14)⟩,
          ⟨(some 54), none, .bin .add (.tmp 53) (.const (.int .i64 1))⟩,
          ⟨(some 14), none, .mov (.tmp 54)⟩] [1, 2, 3, 4, 5, 6, 13, 14]))
def c4 : AFun := ⟨
  .seq (.ops [⟨(some 6), none, .box 25 (.tmp 0)⟩,
      ⟨(some 12), none, .mov (.const (.bool false))⟩] [1, 2, 3, 4, 5, 6])
  (.seq (.seq (.ops [⟨(some 31), none, .load (some 3) (.tmp 6)⟩,
      ⟨(some 32), none, .callF 5 [(.tmp 31)]⟩,
      ⟨(some 33), none, .mov (.tmp 32)⟩,
      ⟨(some 34), (some (33, false)), .mov (.tmp 5)⟩,
      ⟨(some 35), (some (33, false)), .len true (.tmp 34)⟩,
      ⟨(some 36), (some (33, false)), .bin .gtr (.tmp 35) (.const (.int .i64 100))⟩,
      ⟨(some 37), none, .pick (.tmp 33) (.const (.bool true)) (.tmp 36)⟩] [1, 2, 3, 4, 5, 6, 37])
  (.cond (.tmp 37)
    (.seq (.ops [⟨(some 12), none, .mov (.const (.bool true))⟩] [12])
    (.ret))
    (.skip)))
  (.seq (.ops [⟨(some 13), none, .alloc 25 [(3, (.slice none 0 0))]⟩] [1, 2, 3, 4, 5, 6, 13])
  (.seq (.draw [⟨(some 38), none, .mkRow 9 1 0 [(.string ⟨#[]⟩)] []⟩,
      ⟨(some 39), none, .fldA 0 (.tmp 6)⟩,
      ⟨(some 40), none, .load none (.tmp 39)⟩,
      ⟨(some 41), none, .app 9 1 16 (.tmp 38) (.tmp 40)⟩,
      ⟨(some 42), none, .mkRow 9 1 0 [(.string ⟨#[]⟩)] []⟩,
      ⟨(some 43), none, .fldA 1 (.tmp 6)⟩,
      ⟨(some 44), none, .load none (.tmp 43)⟩,
      ⟨(some 45), none, .app 9 1 16 (.tmp 42) (.tmp 44)⟩,
      ⟨(some 46), none, .fldA 0 (.tmp 13)⟩] [⟨none, none, .store 1 (.tmp 46) (.tmp 41)⟩,
      ⟨(some 47), none, .fldA 1 (.tmp 13)⟩,
      ⟨none, none, .store 1 (.tmp 47) (.tmp 45)⟩] [[], [false], [true, false], [], [false, false, false, false], [false, false, false, false, false], [true, false, false, false, false, false], [], [false, false, false, false, true, true, true, true]] [1, 2, 3, 4, 5, 6, 13])
  (.seq (.seq (.ops [⟨(some 14), none, .mov (.const (.int .i64 0))⟩] [1, 2, 3, 4, 5, 6, 13, 14])
  (.block 0
    (.loop [1, 2, 3, 4, 5, 6, 13, 14]
      c4l0)))
  (.seq (.ops [⟨(some 68), none, .load (some 3) (.tmp 6)⟩,
      ⟨(some 69), none, .mov (.tmp 1)⟩,
      ⟨(some 70), none, .mov (.tmp 2)⟩,
      ⟨(some 71), none, .mov (.tmp 3)⟩,
      ⟨(some 72), none, .callF 12 [(.tmp 68), (.tmp 69), (.tmp 70), (.tmp 71)]⟩,
      ⟨(some 67), none, .mov (.tmp 72)⟩,
      ⟨(some 73), none, .ext (.tmp 67) 0⟩,
      ⟨(some 74), none, .ext (.tmp 67) 1⟩,
      ⟨(some 15), none, .mov (.tmp 73)⟩,
      ⟨(some 16), none, .mov (.tmp 74)⟩] [1, 2, 3, 4, 5, 6, 13, 15, 16])
  (.seq (.ops [⟨(some 76), none, .load (some 3) (.tmp 6)⟩,
      ⟨(some 77), none, .mov (.tmp 1)⟩,
      ⟨(some 78), none, .mov (.tmp 2)⟩,
      ⟨(some 79), none, .mov (.tmp 3)⟩,
      ⟨(some 80), none, .callF 13 [(.tmp 76), (.tmp 77), (.tmp 78), (.tmp 79)]⟩,
      ⟨(some 75), none, .mov (.tmp 80)⟩,
      ⟨(some 81), none, .ext (.tmp 75) 0⟩,
      ⟨(some 82), none, .ext (.tmp 75) 1⟩,
      ⟨(some 17), none, .mov (.tmp 81)⟩,
      ⟨(some 18), none, .mov (.tmp 82)⟩] [1, 2, 3, 4, 5, 6, 13, 15, 16, 17, 18])
  (.seq (.ops [⟨(some 84), none, .load (some 3) (.tmp 6)⟩,
      ⟨(some 85), none, .mov (.tmp 1)⟩,
      ⟨(some 86), none, .mov (.tmp 5)⟩,
      ⟨(some 87), none, .mov (.tmp 2)⟩,
      ⟨(some 88), none, .mov (.tmp 3)⟩,
      ⟨(some 89), none, .callF 14 [(.tmp 84), (.tmp 85), (.tmp 86), (.tmp 87), (.tmp 88)]⟩,
      ⟨(some 83), none, .mov (.tmp 89)⟩,
      ⟨(some 90), none, .ext (.tmp 83) 0⟩,
      ⟨(some 91), none, .ext (.tmp 83) 1⟩,
      ⟨(some 19), none, .alloc 25 [(3, (.slice none 0 0))]⟩,
      ⟨none, none, .store 3 (.tmp 19) (.tmp 90)⟩,
      ⟨(some 20), none, .mov (.tmp 91)⟩] [1, 2, 3, 4, 5, 6, 13, 15, 16, 17, 18, 19, 20])
  (.seq (.ops [⟨(some 93), none, .load (some 3) (.tmp 6)⟩,
      ⟨(some 94), none, .mov (.tmp 1)⟩,
      ⟨(some 95), none, .mov (.tmp 5)⟩,
      ⟨(some 96), none, .mov (.tmp 2)⟩,
      ⟨(some 97), none, .mov (.tmp 3)⟩,
      ⟨(some 98), none, .callF 15 [(.tmp 93), (.tmp 94), (.tmp 95), (.tmp 96), (.tmp 97)]⟩,
      ⟨(some 92), none, .mov (.tmp 98)⟩,
      ⟨(some 99), none, .ext (.tmp 92) 0⟩,
      ⟨(some 100), none, .ext (.tmp 92) 1⟩,
      ⟨(some 21), none, .alloc 25 [(3, (.slice none 0 0))]⟩,
      ⟨none, none, .store 3 (.tmp 21) (.tmp 99)⟩,
      ⟨(some 22), none, .mov (.tmp 100)⟩] [4, 5, 6, 13, 15, 16, 17, 18, 19, 20, 21, 22])
  (.seq (.ops [⟨(some 102), none, .load (some 3) (.tmp 6)⟩,
      ⟨(some 103), none, .mov (.tmp 5)⟩,
      ⟨(some 104), none, .callF 16 [(.tmp 102), (.tmp 103)]⟩,
      ⟨(some 101), none, .mov (.tmp 104)⟩,
      ⟨(some 105), none, .ext (.tmp 101) 0⟩,
      ⟨(some 106), none, .ext (.tmp 101) 1⟩,
      ⟨(some 23), none, .alloc 25 [(3, (.slice none 0 0))]⟩,
      ⟨none, none, .store 3 (.tmp 23) (.tmp 105)⟩,
      ⟨(some 24), none, .mov (.tmp 106)⟩] [4, 5, 6, 13, 15, 16, 17, 18, 19, 20, 21, 22, 23, 24])
  (.seq (.ops [⟨(some 108), none, .load (some 3) (.tmp 6)⟩,
      ⟨(some 109), none, .mov (.tmp 5)⟩,
      ⟨(some 110), none, .callF 17 [(.tmp 108), (.tmp 109)]⟩,
      ⟨(some 107), none, .mov (.tmp 110)⟩,
      ⟨(some 111), none, .ext (.tmp 107) 0⟩,
      ⟨(some 112), none, .ext (.tmp 107) 1⟩,
      ⟨(some 25), none, .alloc 25 [(3, (.slice none 0 0))]⟩,
      ⟨none, none, .store 3 (.tmp 25) (.tmp 111)⟩,
      ⟨(some 26), none, .mov (.tmp 112)⟩] [4, 6, 13, 15, 16, 17, 18, 19, 20, 21, 22, 23, 24, 25, 26])
  (.seq (.ops [⟨(some 114), none, .load (some 3) (.tmp 6)⟩,
      ⟨(some 115), none, .mov (.tmp 4)⟩,
      ⟨(some 116), none, .callF 18 [(.tmp 114), (.tmp 115)]⟩,
      ⟨(some 113), none, .mov (.tmp 116)⟩,
      ⟨(some 117), none, .ext (.tmp 113) 0⟩,
      ⟨(some 118), none, .ext (.tmp 113) 1⟩,
      ⟨(some 27), none, .alloc 25 [(3, (.slice none 0 0))]⟩,
      ⟨none, none, .store 3 (.tmp 27) (.tmp 117)⟩,
      ⟨(some 28), none, .mov (.tmp 118)⟩] [4, 6, 13, 15, 16, 17, 18, 19, 20, 21, 22, 23, 24, 25, 26, 27, 28])
  (.seq (.ops [⟨(some 120), none, .load (some 3) (.tmp 6)⟩,
      ⟨(some 121), none, .mov (.tmp 4)⟩,
      ⟨(some 122), none, .callF 19 [(.tmp 120), (.tmp 121)]⟩,
      ⟨(some 119), none, .mov (.tmp 122)⟩,
      ⟨(some 123), none, .ext (.tmp 119) 0⟩,
      ⟨(some 124), none, .ext (.tmp 119) 1⟩,
      ⟨(some 29), none, .alloc 25 [(3, (.slice none 0 0))]⟩,
      ⟨none, none, .store 3 (.tmp 29) (.tmp 123)⟩,
      ⟨(some 30), none, .mov (.tmp 124)⟩] [6, 13, 15, 16, 17, 18, 19, 20, 21, 22, 23, 24, 25, 26, 27, 28, 29, 30])
  (.seq (.seq (.ops [⟨(some 125), none, .mov (.tmp 15)⟩,
      ⟨(some 126), none, .mov (.tmp 17)⟩,
      ⟨(some 127), none, .callF 20 [(.tmp 125), (.tmp 126)]⟩,
      ⟨(some 128), none, .un .not (.tmp 127)⟩,
      ⟨(some 129), none, .mov (.tmp 128)⟩,
      ⟨(some 130), (some (129, false)), .mov (.tmp 16)⟩,
      ⟨(some 131), (some (129, false)), .mov (.tmp 18)⟩,
      ⟨(some 132), (some (129, false)), .bin .neq (.tmp 130) (.tmp 131)⟩,
      ⟨(some 133), none, .pick (.tmp 129) (.const (.bool true)) (.tmp 132)⟩,
      ⟨(some 134), none, .mov (.tmp 133)⟩,
      ⟨(some 135), (some (134, false)), .load (some 3) (.tmp 19)⟩,
      ⟨(some 136), (some (134, false)), .load (some 3) (.tmp 21)⟩,
      ⟨(some 137), (some (134, false)), .callF 21 [(.tmp 135), (.tmp 136)]⟩,
      ⟨(some 138), (some (134, false)), .un .not (.tmp 137)⟩,
      ⟨(some 139), none, .pick (.tmp 134) (.const (.bool true)) (.tmp 138)⟩,
      ⟨(some 140), none, .mov (.tmp 139)⟩,
      ⟨(some 141), (some (140, false)), .mov (.tmp 20)⟩,
      ⟨(some 142), (some (140, false)), .mov (.tmp 22)⟩,
      ⟨(some 143), (some (140, false)), .bin .neq (.tmp 141) (.tmp 142)⟩,
      ⟨(some 144), none, .pick (.tmp 140) (.const (.bool true)) (.tmp 143)⟩,
      ⟨(some 145), none, .mov (.tmp 144)⟩,
      ⟨(some 146), (some (145, false)), .load (some 3) (.tmp 23)⟩,
      ⟨(some 147), (some (145, false)), .load (some 3) (.tmp 25)⟩,
      ⟨(some 148), (some (145, false)), .callF 21 [(.tmp 146), (.tmp 147)]⟩,
      ⟨(some 149), (some (145, false)), .un .not (.tmp 148)⟩,
      ⟨(some 150), none, .pick (.tmp 145) (.const (.bool true)) (.tmp 149)⟩,
      ⟨(some 151), none, .mov (.tmp 150)⟩,
      ⟨(some 152), (some (151, false)), .mov (.tmp 24)⟩,
      ⟨(some 153), (some (151, false)), .mov (.tmp 26)⟩,
      ⟨(some 154), (some (151, false)), .bin .neq (.tmp 152) (.tmp 153)⟩,
      ⟨(some 155), none, .pick (.tmp 151) (.const (.bool true)) (.tmp 154)⟩,
      ⟨(some 156), none, .mov (.tmp 155)⟩,
      ⟨(some 157), (some (156, false)), .load (some 3) (.tmp 27)⟩,
      ⟨(some 158), (some (156, false)), .load (some 3) (.tmp 29)⟩,
      ⟨(some 159), (some (156, false)), .callF 21 [(.tmp 157), (.tmp 158)]⟩,
      ⟨(some 160), (some (156, false)), .un .not (.tmp 159)⟩,
      ⟨(some 161), none, .pick (.tmp 156) (.const (.bool true)) (.tmp 160)⟩,
      ⟨(some 162), none, .mov (.tmp 161)⟩,
      ⟨(some 163), (some (162, false)), .mov (.tmp 28)⟩,
      ⟨(some 164), (some (162, false)), .mov (.tmp 30)⟩,
      ⟨(some 165), (some (162, false)), .bin .neq (.tmp 163) (.tmp 164)⟩,
      ⟨(some 166), none, .pick (.tmp 162) (.const (.bool true)) (.tmp 165)⟩] [6, 13, 19, 23, 27, 166])
  (.cond (.tmp 166)
    (.seq (.ops [⟨(some 12), none, .mov (.const (.bool false))⟩] [12])
    (.ret))
    (.skip)))
  (.seq (.ops [⟨(some 167), none, .load (some 3) (.tmp 19)⟩,
      ⟨(some 168), none, .callF 22 [(.tmp 167)]⟩] [6, 13, 23, 27])
  (.seq (.ops [⟨(some 169), none, .load (some 3) (.tmp 23)⟩,
      ⟨(some 170), none, .callF 22 [(.tmp 169)]⟩] [6, 13, 27])
  (.seq (.ops [⟨(some 171), none, .load (some 3) (.tmp 27)⟩,
      ⟨(some 172), none, .callF 22 [(.tmp 171)]⟩] [6, 13])
  (.seq (.ops [⟨(some 173), none, .load (some 3) (.tmp 6)⟩,
      ⟨(some 174), none, .load (some 3) (.tmp 13)⟩,
      ⟨(some 175), none, .callF 21 [(.tmp 173), (.tmp 174)]⟩,
      ⟨(some 12), none, .mov (.tmp 175)⟩] [12])
  (.ret)))))))))))))))))),
  176, [(12, none)], true⟩
/- raddle/raddleref40.Great -/
def c5l0 : AC :=
  .seq (.seq (.ops [⟨(some 50), none, .mov (.tmp 5)⟩,
          ⟨(some 51), none, .fldA 2 (.tmp 1)⟩,
          ⟨(some 52), none, .load none (.tmp 51)⟩,
          ⟨(some 53), none, .len false (.tmp 52)⟩,
          ⟨(some 54), none, .bin .lss (.tmp 50) (.tmp 53)⟩] [1, 5, 54])
      (.cond (.tmp 54)
        (.skip)
        (.exit 4)))
      (.seq (.block 5
        (.seq (.ops [⟨(some 57), none, .fldA 2 (.tmp 1)⟩,
            ⟨(some 58), none, .load none (.tmp 57)⟩,
            ⟨(some 59), none, .mov (.tmp 5)⟩,
            ⟨(some 60), none, .idxS 1 (.tmp 58) (.tmp 59)⟩,
            ⟨(some 61), none, .load none (.tmp 60)⟩,
            ⟨(some 62), none, .len false (.tmp 61)⟩,
            ⟨(some 63), none, .bin .gtr (.tmp 62) (.const (.int .i64 40))⟩] [1, 5, 63])
        (.cond (.tmp 63)
          (.seq (.ops [⟨(some 2), none, .mov (.const (.bool true))⟩] [2])
          (.ret))
          (.skip))))
      (.ops [⟨(some 55), none, .mov (.tmp 5)⟩,
          ⟨(some 56), none, .bin .add (.tmp 55) (.const (.int .i64 1))⟩,
          ⟨(some 5), none, .mov (.tmp 56)⟩] [1, 5]))
def c5l1 : AC :=
  .seq (.seq (.ops [⟨(some 36), none, .mov (.tmp 4)⟩,
          ⟨(some 37), none, .fldA 1 (.tmp 1)⟩,
          ⟨(some 38), none, .load none (.tmp 37)⟩,
          ⟨(some 39), none, .len false (.tmp 38)⟩,
          ⟨(some 40), none, .bin .lss (.tmp 36) (.tmp 39)⟩] [1, 4, 40])
      (.cond (.tmp 40)
        (.skip)
        (.exit 2)))
      (.seq (.block 3
        (.seq (.ops [⟨(some 43), none, .fldA 1 (.tmp 1)⟩,
            ⟨(some 44), none, .load none (.tmp 43)⟩,
            ⟨(some 45), none, .mov (.tmp 4)⟩,
            ⟨(some 46), none, .idxS 1 (.tmp 44) (.tmp 45)⟩,
            ⟨(some 47), none, .load none (.tmp 46)⟩,
            ⟨(some 48), none, .len true (.tmp 47)⟩,
            ⟨(some 49), none, .bin .gtr (.tmp 48) (.const (.int .i64 60))⟩] [1, 4, 49])
        (.cond (.tmp 49)
          (.seq (.ops [⟨(some 2), none, .mov (.const (.bool true))⟩] [2])
          (.ret))
          (.skip))))
      (.ops [⟨(some 41), none, .mov (.tmp 4)⟩,
          ⟨(some 42), none, .bin .add (.tmp 41) (.const (.int .i64 1))⟩,
          ⟨(some 4), none, .mov (.tmp 42)⟩] [1, 4]))
def c5l2 : AC :=
  .seq (.seq (.ops [⟨(some 22), none, .mov (.tmp 3)⟩,
          ⟨(some 23), none, .fldA 0 (.tmp 1)⟩,
          ⟨(some 24), none, .load none (.tmp 23)⟩,
          ⟨(some 25), none, .len false (.tmp 24)⟩,
          ⟨(some 26), none, .bin .lss (.tmp 22) (.tmp 25)⟩] [1, 3, 26])
      (.cond (.tmp 26)
        (.skip)
        (.exit 0)))
      (.seq (.block 1
        (.seq (.ops [⟨(some 29), none, .fldA 0 (.tmp 1)⟩,
            ⟨(some 30), none, .load none (.tmp 29)⟩,
            ⟨(some 31), none, .mov (.tmp 3)⟩,
            ⟨(some 32), none, .idxS 1 (.tmp 30) (.tmp 31)⟩,
            ⟨(some 33), none, .load none (.tmp 32)⟩,
            ⟨(some 34), none, .len true (.tmp 33)⟩,
            ⟨(some 35), none, .bin .gtr (.tmp 34) (.const (.int .i64 60))⟩] [1, 3, 35])
        (.cond (.tmp 35)
          (.seq (.ops [⟨(some 2), none, .mov (.const (.bool true))⟩] [2])
          (.ret))
          (.skip))))
      (.ops [⟨(some 27), none, .mov (.tmp 3)⟩,
          ⟨(some 28), none, .bin .add (.tmp 27) (.const (.int .i64 1))⟩,
          ⟨(some 3), none, .mov (.tmp 28)⟩] [1, 3]))
def c5 : AFun := ⟨
  .seq (.ops [⟨(some 1), none, .box 25 (.tmp 0)⟩,
      ⟨(some 2), none, .mov (.const (.bool false))⟩] [1])
  (.seq (.seq (.ops [⟨(some 6), none, .fldA 0 (.tmp 1)⟩,
      ⟨(some 7), none, .load none (.tmp 6)⟩,
      ⟨(some 8), none, .len false (.tmp 7)⟩,
      ⟨(some 9), none, .bin .gtr (.tmp 8) (.const (.int .i64 30))⟩,
      ⟨(some 10), none, .mov (.tmp 9)⟩,
      ⟨(some 11), (some (10, false)), .fldA 1 (.tmp 1)⟩,
      ⟨(some 12), (some (10, false)), .load none (.tmp 11)⟩,
      ⟨(some 13), (some (10, false)), .len false (.tmp 12)⟩,
      ⟨(some 14), (some (10, false)), .bin .gtr (.tmp 13) (.const (.int .i64 40))⟩,
      ⟨(some 15), none, .pick (.tmp 10) (.const (.bool true)) (.tmp 14)⟩,
      ⟨(some 16), none, .mov (.tmp 15)⟩,
      ⟨(some 17), (some (16, false)), .fldA 2 (.tmp 1)⟩,
      ⟨(some 18), (some (16, false)), .load none (.tmp 17)⟩,
      ⟨(some 19), (some (16, false)), .len false (.tmp 18)⟩,
      ⟨(some 20), (some (16, false)), .bin .gtr (.tmp 19) (.const (.int .i64 40))⟩,
      ⟨(some 21), none, .pick (.tmp 16) (.const (.bool true)) (.tmp 20)⟩] [1, 21])
  (.cond (.tmp 21)
    (.seq (.ops [⟨(some 2), none, .mov (.const (.bool true))⟩] [2])
    (.ret))
    (.skip)))
  (.seq (.seq (.ops [⟨(some 3), none, .mov (.const (.int .i64 0))⟩] [1, 3])
  (.block 0
    (.loop [1, 3]
      c5l2)))
  (.seq (.seq (.ops [⟨(some 4), none, .mov (.const (.int .i64 0))⟩] [1, 4])
  (.block 2
    (.loop [1, 4]
      c5l1)))
  (.seq (.seq (.ops [⟨(some 5), none, .mov (.const (.int .i64 0))⟩] [1, 5])
  (.block 4
    (.loop [1, 5]
      c5l0)))
  (.seq (.ops [⟨(some 2), none, .mov (.const (.bool false))⟩] [2])
  (.ret)))))),
  64, [(2, none)], true⟩
/- raddle/grade.At -/
def c6 : AFun := ⟨
  .seq (.ops [⟨(some 3), none, .box 25 (.tmp 0)⟩,
      ⟨(some 6), none, .mov (.const (.int .i64 0))⟩,
      ⟨(some 7), none, .mov (.const (.int .i64 0))⟩] [1, 2, 3])
  (.seq (.seq (.ops [⟨(some 11), none, .load (some 3) (.tmp 3)⟩,
      ⟨(some 12), none, .callF 10 [(.tmp 11)]⟩,
      ⟨(some 8), none, .mov (.tmp 12)⟩] [1, 2, 3, 8])
  (.seq (.ops [⟨(some 13), none, .mov (.tmp 8)⟩,
      ⟨(some 14), none, .bin .neq (.tmp 13) (.const (.int .i64 0))⟩] [1, 2, 3, 8, 14])
  (.cond (.tmp 14)
    (.seq (.ops [⟨(some 15), none, .mov (.tmp 8)⟩,
        ⟨(some 6), none, .mov (.const (.int .i64 0))⟩,
        ⟨(some 7), none, .mov (.tmp 15)⟩] [6, 7])
    (.ret))
    (.skip))))
  (.seq (.draw [⟨(some 16), none, .fldA 1 (.tmp 3)⟩,
      ⟨(some 17), none, .load none (.tmp 16)⟩,
      ⟨(some 18), none, .mov (.tmp 1)⟩,
      ⟨(some 19), none, .callF 23 [(.tmp 17), (.tmp 18)]⟩,
      ⟨(some 20), none, .fldA 0 (.tmp 3)⟩,
      ⟨(some 21), none, .load none (.tmp 20)⟩,
      ⟨(some 22), none, .mov (.tmp 2)⟩] [⟨(some 23), none, .callF 23 [(.tmp 21), (.tmp 22)]⟩,
      ⟨(some 9), none, .mov (.tmp 19)⟩,
      ⟨(some 10), none, .mov (.tmp 23)⟩] [[], [], [], [], [false, false, false, false], [true, false, false, false, false], [false, false, false, false, false, false]] [3, 9, 10])
  (.seq (.seq (.ops [⟨(some 24), none, .mov (.tmp 9)⟩,
      ⟨(some 25), none, .bin .lss (.tmp 24) (.const (.int .i64 0))⟩,
      ⟨(some 26), none, .mov (.tmp 25)⟩,
      ⟨(some 27), (some (26, false)), .mov (.tmp 10)⟩,
      ⟨(some 28), (some (26, false)), .bin .lss (.tmp 27) (.const (.int .i64 0))⟩,
      ⟨(some 29), none, .pick (.tmp 26) (.const (.bool true)) (.tmp 28)⟩] [3, 9, 10, 29])
  (.cond (.tmp 29)
    (.seq (.ops [⟨(some 6), none, .mov (.const (.int .i64 0))⟩,
        ⟨(some 7), none, .mov (.const (.int .i64 6))⟩] [6, 7])
    (.ret))
    (.skip)))
  (.seq (.ops [⟨(some 30), none, .fldA 2 (.tmp 3)⟩,
      ⟨(some 31), none, .load none (.tmp 30)⟩,
      ⟨(some 32), none, .mov (.tmp 9)⟩,
      ⟨(some 33), none, .idxS 1 (.tmp 31) (.tmp 32)⟩,
      ⟨(some 34), none, .load none (.tmp 33)⟩,
      ⟨(some 35), none, .mov (.tmp 10)⟩,
      ⟨(some 36), none, .idxS 1 (.tmp 34) (.tmp 35)⟩,
      ⟨(some 37), none, .load none (.tmp 36)⟩,
      ⟨(some 6), none, .mov (.tmp 37)⟩,
      ⟨(some 7), none, .mov (.const (.int .i64 0))⟩] [6, 7])
  (.ret))))),
  38, [(6, none), (7, none)], true⟩
/- raddle/raddleref40.At -/
def c7 : AFun := ⟨
  .seq (.ops [⟨(some 3), none, .box 25 (.tmp 0)⟩,
      ⟨(some 6), none, .mov (.const (.int .i64 0))⟩,
      ⟨(some 7), none, .mov (.const (.int .i64 0))⟩] [1, 2, 3])
  (.seq (.seq (.ops [⟨(some 11), none, .load (some 3) (.tmp 3)⟩,
      ⟨(some 12), none, .callF 11 [(.tmp 11)]⟩,
      ⟨(some 8), none, .mov (.tmp 12)⟩] [1, 2, 3, 8])
  (.seq (.ops [⟨(some 13), none, .mov (.tmp 8)⟩,
      ⟨(some 14), none, .bin .neq (.tmp 13) (.const (.int .i64 0))⟩] [1, 2, 3, 8, 14])
  (.cond (.tmp 14)
    (.seq (.ops [⟨(some 15), none, .mov (.tmp 8)⟩,
        ⟨(some 6), none, .mov (.const (.int .i64 0))⟩,
        ⟨(some 7), none, .mov (.tmp 15)⟩] [6, 7])
    (.ret))
    (.skip))))
  (.seq (.draw [⟨(some 16), none, .fldA 1 (.tmp 3)⟩,
      ⟨(some 17), none, .load none (.tmp 16)⟩,
      ⟨(some 18), none, .mov (.tmp 1)⟩,
      ⟨(some 19), none, .callF 24 [(.tmp 17), (.tmp 18)]⟩,
      ⟨(some 20), none, .fldA 0 (.tmp 3)⟩,
      ⟨(some 21), none, .load none (.tmp 20)⟩,
      ⟨(some 22), none, .mov (.tmp 2)⟩] [⟨(some 23), none, .callF 24 [(.tmp 21), (.tmp 22)]⟩,
      ⟨(some 9), none, .mov (.tmp 19)⟩,
      ⟨(some 10), none, .mov (.tmp 23)⟩] [[], [], [], [], [false, false, false, false], [true, false, false, false, false], [false, false, false, false, false, false]] [3, 9, 10])
  (.seq (.seq (.ops [⟨(some 24), none, .mov (.tmp 9)⟩,
      ⟨(some 25), none, .bin .lss (.tmp 24) (.const (.int .i64 0))⟩,
      ⟨(some 26), none, .mov (.tmp 25)⟩,
      ⟨(some 27), (some (26, false)), .mov (.tmp 10)⟩,
      ⟨(some 28), (some (26, false)), .bin .lss (.tmp 27) (.const (.int .i64 0))⟩,
      ⟨(some 29), none, .pick (.tmp 26) (.const (.bool true)) (.tmp 28)⟩] [3, 9, 10, 29])
  (.cond (.tmp 29)
    (.seq (.ops [⟨(some 6), none, .mov (.const (.int .i64 0))⟩,
        ⟨(some 7), none, .mov (.const (.int .i64 6))⟩] [6, 7])
    (.ret))
    (.skip)))
  (.seq (.ops [⟨(some 30), none, .fldA 2 (.tmp 3)⟩,
      ⟨(some 31), none, .load none (.tmp 30)⟩,
      ⟨(some 32), none, .mov (.tmp 9)⟩,
      ⟨(some 33), none, .idxS 1 (.tmp 31) (.tmp 32)⟩,
      ⟨(some 34), none, .load none (.tmp 33)⟩,
      ⟨(some 35), none, .mov (.tmp 10)⟩,
      ⟨(some 36), none, .idxS 1 (.tmp 34) (.tmp 35)⟩,
      ⟨(some 37), none, .load none (.tmp 36)⟩,
      ⟨(some 6), none, .mov (.tmp 37)⟩,
      ⟨(some 7), none, .mov (.const (.int .i64 0))⟩] [6, 7])
  (.ret))))),
  38, [(6, none), (7, none)], true⟩
/- raddle/grade.Find -/
def c8l0 : AC :=
  .seq (.ops [⟨(some 30), none, .bin .lss (.tmp 29) (.tmp 28)⟩] [2, 3, 27, 28, 29, 30])
        (.seq (.cond (.tmp 30)
          (.skip)
          (.exit 0))
        (.seq (.block 1
          (.seq (.ops [⟨(some 31), none, .mov (.tmp 29)⟩,
              ⟨(some 32), none, .idxS 1 (.tmp 27) (.tmp 29)⟩,
              ⟨(some 33), none, .load none (.tmp 32)⟩,
              ⟨(some 10), none, .mov (.tmp 31)⟩,
              ⟨(some 11), none, .mov (.tmp 33)⟩] [2, 3, 10, 11, 27, 28, 29])
          (.seq (.ops [⟨(some 34), none, .mov (.tmp 11)⟩,
              ⟨(some 35), none, .mov (.tmp 2)⟩,
              ⟨(some 36), none, .bin .geq (.tmp 34) (.tmp 35)⟩] [2, 3, 10, 27, 28, 29, 36])
          (.cond (.tmp 36)
            (.seq (.ops [⟨(some 37), none, .fldA 0 (.tmp 3)⟩,
                ⟨(some 38), none, .load none (.tmp 37)⟩,
                ⟨(some 39), none, .mov (.tmp 10)⟩,
                ⟨(some 40), none, .idxS 1 (.tmp 38) (.tmp 39)⟩,
                ⟨(some 41), none, .load none (.tmp 40)⟩,
                ⟨(some 6), none, .mov (.tmp 41)⟩,
                ⟨(some 7), none, .mov (.const (.int .i64 0))⟩] [6, 7])
            (.ret))
            (.skip)))))
        (.ops [⟨(some 42), none, .bin .add (.tmp 29) (.const (.int .i64 1))⟩,
            ⟨(some 29), none, .mov (.tmp 42)⟩] [2, 3, 27, 28, 29])))
def c8 : AFun := ⟨
  .seq (.ops [⟨(some 3), none, .box 25 (.tmp 0)⟩,
      ⟨(some 6), none, .mov (.const (.string ⟨#[]⟩))⟩,
      ⟨(some 7), none, .mov (.const (.int .i64 0))⟩] [1, 2, 3])
  (.seq (.seq (.ops [⟨(some 12), none, .load (some 3) (.tmp 3)⟩,
      ⟨(some 13), none, .callF 10 [(.tmp 12)]⟩,
      ⟨(some 8), none, .mov (.tmp 13)⟩] [1, 2, 3, 8])
  (.seq (.ops [⟨(some 14), none, .mov (.tmp 8)⟩,
      ⟨(some 15), none, .bin .neq (.tmp 14) (.const (.int .i64 0))⟩] [1, 2, 3, 8, 15])
  (.cond (.tmp 15)
    (.seq (.ops [⟨(some 16), none, .mov (.tmp 8)⟩,
        ⟨(some 6), none, .mov (.const (.string ⟨#[]⟩))⟩,
        ⟨(some 7), none, .mov (.tmp 16)⟩] [6, 7])
    (.ret))
    (.skip))))
  (.seq (.seq (.ops [⟨(some 17), none, .fldA 1 (.tmp 3)⟩,
      ⟨(some 18), none, .load none (.tmp 17)⟩,
      ⟨(some 19), none, .mov (.tmp 1)⟩,
      ⟨(some 20), none, .callF 23 [(.tmp 18), (.tmp 19)]⟩,
      ⟨(some 9), none, .mov (.tmp 20)⟩] [2, 3, 9])
  (.seq (.ops [⟨(some 21), none, .mov (.tmp 9)⟩,
      ⟨(some 22), none, .bin .geq (.tmp 21) (.const (.int .i64 0))⟩] [2, 3, 9, 22])
  (.cond (.tmp 22)
    (.seq (.ops [⟨(some 23), none, .fldA 2 (.tmp 3)⟩,
        ⟨(some 24), none, .load none (.tmp 23)⟩,
        ⟨(some 25), none, .mov (.tmp 9)⟩,
        ⟨(some 26), none, .idxS 1 (.tmp 24) (.tmp 25)⟩,
        ⟨(some 27), none, .load none (.tmp 26)⟩,
        ⟨(some 28), none, .len false (.tmp 27)⟩,
        ⟨(some 29), none, .mov (.const (.int .i64 0))⟩] [2, 3, 27, 28, 29])
    (.block 0
      (.loop [2, 3, 27, 28, 29]
        c8l0)))
    (.skip))))
  (.seq (.ops [⟨(some 6), none, .mov (.const (.string ⟨#[]⟩))⟩,
      ⟨(some 7), none, .mov (.const (.int .i64 6))⟩] [6, 7])
  (.ret)))),
  43, [(6, none), (7, none)], true⟩
/- raddle/raddleref40.Find -/
def c9l0 : AC :=
  .seq (.seq (.ops [⟨(some 20), none, .mov (.tmp 9)⟩,
          ⟨(some 21), none, .bin .geq (.tmp 20) (.const (.int .i64 0))⟩,
          ⟨(some 22), none, .mov (.tmp 21)⟩,
          ⟨(some 23), (some (22, true)), .mov (.tmp 10)⟩,
          ⟨(some 24), (some (22, true)), .fldA 0 (.tmp 3)⟩,
          ⟨(some 25), (some (22, true)), .load none (.tmp 24)⟩,
          ⟨(some 26), (some (22, true)), .len false (.tmp 25)⟩,
          ⟨(some 27), (some (22, true)), .bin .lss (.tmp 23) (.tmp 26)⟩,
          ⟨(some 28), none, .pick (.tmp 22) (.tmp 27) (.const (.bool false))⟩] [2, 3, 9, 10, 28])
      (.cond (.tmp 28)
        (.skip)
        (.exit 0)))
      (.seq (.block 1
        (.seq (.ops [⟨(some 31), none, .fldA 2 (.tmp 3)⟩,
            ⟨(some 32), none, .load none (.tmp 31)⟩,
            ⟨(some 33), none, .mov (.tmp 9)⟩,
            ⟨(some 34), none, .idxS 1 (.tmp 32) (.tmp 33)⟩,
            ⟨(some 35), none, .load none (.tmp 34)⟩,
            ⟨(some 36), none, .mov (.tmp 10)⟩,
            ⟨(some 37), none, .idxS 1 (.tmp 35) (.tmp 36)⟩,
            ⟨(some 38), none, .load none (.tmp 37)⟩,
            ⟨(some 39), none, .mov (.tmp 2)⟩,
            ⟨(some 40), none, .bin .geq (.tmp 38) (.tmp 39)⟩] [2, 3, 9, 10, 40])
        (.cond (.tmp 40)
          (.seq (.ops [⟨(some 41), none, .fldA 0 (.tmp 3)⟩,
              ⟨(some 42), none, .load none (.tmp 41)⟩,
              ⟨(some 43), none, .mov (.tmp 10)⟩,
              ⟨(some 44), none, .idxS 1 (.tmp 42) (.tmp 43)⟩,
              ⟨(some 45), none, .load none (.tmp 44)⟩,
              ⟨(some 6), none, .mov (.tmp 45)⟩,
              ⟨(some 7), none, .mov (.const (.int .i64 0))⟩] [6, 7])
          (.ret))
          (.skip))))
      (.ops [⟨(some 29), none, .mov (.tmp 10)⟩,
          ⟨(some 30), none, .bin .add (.tmp 29) (.const (.int .i64 1))⟩,
          ⟨(some 10), none, .mov (.tmp 30)⟩] [2, 3, 9, 10]))
def c9 : AFun := ⟨
  .seq (.ops [⟨(some 3), none, .box 25 (.tmp 0)⟩,
      ⟨(some 6), none, .mov (.const (.string ⟨#[]⟩))⟩,
      ⟨(some 7), none, .mov (.const (.int .i64 0))⟩] [1, 2, 3])
  (.seq (.seq (.ops [⟨(some 11), none, .load (some 3) (.tmp 3)⟩,
      ⟨(some 12), none, .callF 11 [(.tmp 11)]⟩,
      ⟨(some 8), none, .mov (.tmp 12)⟩] [1, 2, 3, 8])
  (.seq (.ops [⟨(some 13), none, .mov (.tmp 8)⟩,
      ⟨(some 14), none, .bin .neq (.tmp 13) (.const (.int .i64 0))⟩] [1, 2, 3, 8, 14])
  (.cond (.tmp 14)
    (.seq (.ops [⟨(some 15), none, .mov (.tmp 8)⟩,
        ⟨(some 6), none, .mov (.const (.string ⟨#[]⟩))⟩,
        ⟨(some 7), none, .mov (.tmp 15)⟩] [6, 7])
    (.ret))
    (.skip))))
  (.seq (.ops [⟨(some 16), none, .fldA 1 (.tmp 3)⟩,
      ⟨(some 17), none, .load none (.tmp 16)⟩,
      ⟨(some 18), none, .mov (.tmp 1)⟩,
      ⟨(some 19), none, .callF 24 [(.tmp 17), (.tmp 18)]⟩,
      ⟨(some 9), none, .mov (.tmp 19)⟩] [2, 3, 9])
  (.seq (.seq (.ops [⟨(some 10), none, .mov (.const (.int .i64 0))⟩] [2, 3, 9, 10])
  (.block 0
    (.loop [2, 3, 9, 10]
      c9l0)))
  (.seq (.ops [⟨(some 6), none, .mov (.const (.string ⟨#[]⟩))⟩,
      ⟨(some 7), none, .mov (.const (.int .i64 6))⟩] [6, 7])
  (.ret))))),
  46, [(6, none), (7, none)], true⟩
/- raddle/grade.Check -/
def c10l0 : AC :=
  .seq (.ops [⟨(some 71), none, .bin .lss (.tmp 70) (.tmp 69)⟩] [1, 4, 6, 9, 56, 57, 58, 68, 69, 70, 71])
            (.seq (.cond (.tmp 71)
              (.skip)
              (.exit 2))
            (.seq (.block 3
              (.seq (.ops [⟨(some 72), none, .idxS 1 (.tmp 68) (.tmp 70)⟩,
                  ⟨(some 73), none, .load none (.tmp 72)⟩,
                  ⟨(some 11), none, .mov (.tmp 73)⟩] [1, 4, 6, 9, 11, 56, 57, 58, 68, 69, 70])
              (.seq (.seq (.ops [⟨(some 74), none, .mov (.tmp 11)⟩,
                  ⟨(some 75), none, .mov (.tmp 9)⟩,
                  ⟨(some 76), none, .bin .lss (.tmp 74) (.tmp 75)⟩,
                  ⟨(some 77), none, .mov (.tmp 76)⟩,
                  ⟨(some 78), (some (77, false)), .mov (.tmp 11)⟩,
                  ⟨(some 79), (some (77, false)), .bin .gtr (.tmp 78) (.const (.int .i64 1000000))⟩,
                  ⟨(some 80), none, .pick (.tmp 77) (.const (.bool true)) (.tmp 79)⟩] [1, 4, 6, 11, 56, 57, 58, 68, 69, 70, 80])
              (.cond (.tmp 80)
                (.seq (.ops [⟨(some 2), none, .mov (.const (.int .i64 8))⟩] [2])
                (.ret))
                (.skip)))
              (.ops [⟨(some 81), none, .mov (.tmp 11)⟩,
                  ⟨(some 9), none, .mov (.tmp 81)⟩] [1, 4, 6, 9, 56, 57, 58, 68, 69, 70]))))
            (.ops [⟨(some 82), none, .bin .add (.tmp 70) (.const (.int .i64 1))⟩,
                ⟨(some 70), none, .mov (.tmp 82)⟩] [1, 4, 6, 9, 56, 57, 58, 68, 69, 70])))
def c10l1 : AC :=
  .seq (.ops [⟨(some 59), none, .bin .lss (.tmp 58) (.tmp 57)⟩] [1, 4, 6, 56, 57, 58, 59])
      (.seq (.cond (.tmp 59)
        (.skip)
        (.exit 0))
      (.seq (.block 1
        (.seq (.ops [⟨(some 60), none, .idxS 1 (.tmp 56) (.tmp 58)⟩,
            ⟨(some 61), none, .load none (.tmp 60)⟩,
            ⟨(some 8), none, .mov (.tmp 61)⟩] [1, 4, 6, 8, 56, 57, 58])
        (.seq (.seq (.ops [⟨(some 62), none, .mov (.tmp 8)⟩,
            ⟨(some 63), none, .len false (.tmp 62)⟩,
            ⟨(some 64), none, .fldA 0 (.tmp 1)⟩,
            ⟨(some 65), none, .load none (.tmp 64)⟩,
            ⟨(some 66), none, .len false (.tmp 65)⟩,
            ⟨(some 67), none, .bin .neq (.tmp 63) (.tmp 66)⟩] [1, 4, 6, 8, 56, 57, 58, 67])
        (.cond (.tmp 67)
          (.seq (.ops [⟨(some 2), none, .mov (.const (.int .i64 8))⟩] [2])
          (.ret))
          (.skip)))
        (.seq (.ops [⟨(some 9), none, .mov (.const (.int .i64 0))⟩] [1, 4, 6, 8, 9, 56, 57, 58])
        (.seq (.ops [⟨(some 68), none, .mov (.tmp 8)⟩,
            ⟨(some 69), none, .len false (.tmp 68)⟩,
            ⟨(some 70), none, .mov (.const (.int .i64 0))⟩] [1, 4, 6, 9, 56, 57, 58, 68, 69, 70])
        (.block 2
          (.loop [1, 4, 6, 9, 56, 57, 58, 68, 69, 70]
            c10l0)))))))
      (.ops [⟨(some 83), none, .bin .add (.tmp 58) (.const (.int .i64 1))⟩,
          ⟨(some 58), none, .mov (.tmp 83)⟩] [1, 4, 6, 56, 57, 58])))
def c10 : AFun := ⟨
  .seq (.ops [⟨(some 1), none, .box 25 (.tmp 0)⟩,
      ⟨(some 2), none, .mov (.const (.int .i64 0))⟩] [1])
  (.seq (.seq (.ops [⟨(some 12), none, .fldA 0 (.tmp 1)⟩,
      ⟨(some 13), none, .load none (.tmp 12)⟩,
      ⟨(some 14), none, .len false (.tmp 13)⟩,
      ⟨(some 15), none, .bin .gtr (.tmp 14) (.const (.int .i64 20))⟩,
      ⟨(some 16), none, .mov (.tmp 15)⟩,
      ⟨(some 17), (some (16, false)), .fldA 1 (.tmp 1)⟩,
      ⟨(some 18), (some (16, false)), .load none (.tmp 17)⟩,
      ⟨(some 19), (some (16, false)), .len false (.tmp 18)⟩,
      ⟨(some 20), (some (16, false)), .bin .gtr (.tmp 19) (.const (.int .i64 30))⟩,
      ⟨(some 21), none, .pick (.tmp 16) (.const (.bool true)) (.tmp 20)⟩] [1, 21])
  (.cond (.tmp 21)
    (.seq (.ops [⟨(some 2), none, .mov (.const (.int .i64 4))⟩] [2])
    (.ret))
    (.skip)))
  (.seq (.ops [⟨(some 23), none, .fldA 0 (.tmp 1)⟩,
      ⟨(some 24), none, .load none (.tmp 23)⟩,
      ⟨(some 25), none, .callF 25 [(.tmp 24)]⟩,
      ⟨(some 22), none, .mov (.tmp 25)⟩,
      ⟨(some 26), none, .ext (.tmp 22) 0⟩,
      ⟨(some 27), none, .ext (.tmp 22) 1⟩,
      ⟨(some 3), none, .mov (.tmp 26)⟩,
      ⟨(some 4), none, .mov (.tmp 27)⟩] [1, 3, 4])
  (.seq (.ops [⟨(some 29), none, .fldA 1 (.tmp 1)⟩,
      ⟨(some 30), none, .load none (.tmp 29)⟩,
      ⟨(some 31), none, .callF 25 [(.tmp 30)]⟩,
      ⟨(some 28), none, .mov (.tmp 31)⟩,
      ⟨(some 32), none, .ext (.tmp 28) 0⟩,
      ⟨(some 33), none, .ext (.tmp 28) 1⟩,
      ⟨(some 5), none, .mov (.tmp 32)⟩,
      ⟨(some 6), none, .mov (.tmp 33)⟩] [1, 3, 4, 5, 6])
  (.seq (.seq (.ops [⟨(some 34), none, .mov (.tmp 3)⟩,
      ⟨(some 35), none, .un .not (.tmp 34)⟩,
      ⟨(some 36), none, .mov (.tmp 35)⟩,
      ⟨(some 37), (some (36, false)), .mov (.tmp 5)⟩,
      ⟨(some 38), (some (36, false)), .un .not (.tmp 37)⟩,
      ⟨(some 39), none, .pick (.tmp 36) (.const (.bool true)) (.tmp 38)⟩,
      ⟨(some 40), none, .mov (.tmp 39)⟩,
      ⟨(some 41), (some (40, false)), .fldA 1 (.tmp 1)⟩,
      ⟨(some 42), (some (40, false)), .load none (.tmp 41)⟩,
      ⟨(some 43), (some (40, false)), .callF 23 [(.tmp 42), (.const (.string ⟨#[115, 105, 122, 101]⟩))]⟩,
      ⟨(some 44), (some (40, false)), .bin .geq (.tmp 43) (.const (.int .i64 0))⟩,
      ⟨(some 45), none, .pick (.tmp 40) (.const (.bool true)) (.tmp 44)⟩,
      ⟨(some 46), none, .mov (.tmp 45)⟩,
      ⟨(some 47), (some (46, false)), .fldA 2 (.tmp 1)⟩,
      ⟨(some 48), (some (46, false)), .load none (.tmp 47)⟩,
      ⟨(some 49), (some (46, false)), .len false (.tmp 48)⟩,
      ⟨(some 50), (some (46, false)), .fldA 1 (.tmp 1)⟩,
      ⟨(some 51), (some (46, false)), .load none (.tmp 50)⟩,
      ⟨(some 52), (some (46, false)), .len false (.tmp 51)⟩,
      ⟨(some 53), (some (46, false)), .bin .neq (.tmp 49) (.tmp 52)⟩,
      ⟨(some 54), none, .pick (.tmp 46) (.const (.bool true)) (.tmp 53)⟩] [1, 4, 6, 54])
  (.cond (.tmp 54)
    (.seq (.ops [⟨(some 2), none, .mov (.const (.int .i64 8))⟩] [2])
    (.ret))
    (.skip)))
  (.seq (.seq (.ops [⟨(some 55), none, .fldA 2 (.tmp 1)⟩,
      ⟨(some 56), none, .load none (.tmp 55)⟩,
      ⟨(some 57), none, .len false (.tmp 56)⟩,
      ⟨(some 58), none, .mov (.const (.int .i64 0))⟩] [1, 4, 6, 56, 57, 58])
  (.block 0
    (.loop [1, 4, 6, 56, 57, 58]
      c10l1)))
  (.seq (.seq (.ops [⟨(some 84), none, .mov (.tmp 4)⟩,
      ⟨(some 85), none, .mov (.tmp 84)⟩,
      ⟨(some 86), (some (85, false)), .mov (.tmp 6)⟩,
      ⟨(some 87), none, .pick (.tmp 85) (.const (.bool true)) (.tmp 86)⟩] [87])
  (.cond (.tmp 87)
    (.seq (.ops [⟨(some 2), none, .mov (.const (.int .i64 14))⟩] [2])
    (.ret))
    (.skip)))
  (.seq (.ops [⟨(some 2), none, .mov (.const (.int .i64 0))⟩] [2])
  (.ret)))))))),
  88, [(2, none)], true⟩
/- raddle/raddleref40.Check -/
def c11l0 : AC :=
  .seq (.seq (.ops [⟨(some 39), none, .mov (.tmp 3)⟩,
          ⟨(some 40), none, .fldA 2 (.tmp 1)⟩,
          ⟨(some 41), none, .load none (.tmp 40)⟩,
          ⟨(some 42), none, .len false (.tmp 41)⟩,
          ⟨(some 43), none, .bin .lss (.tmp 39) (.tmp 42)⟩] [1, 3, 43])
      (.cond (.tmp 43)
        (.skip)
        (.exit 0)))
      (.seq (.block 1
        (.seq (.draw [⟨(some 46), none, .fldA 2 (.tmp 1)⟩,
            ⟨(some 47), none, .load none (.tmp 46)⟩,
            ⟨(some 48), none, .mov (.tmp 3)⟩,
            ⟨(some 49), none, .idxS 1 (.tmp 47) (.tmp 48)⟩,
            ⟨(some 50), none, .load none (.tmp 49)⟩,
            ⟨(some 51), none, .fldA 0 (.tmp 1)⟩,
            ⟨(some 52), none, .load none (.tmp 51)⟩,
            ⟨(some 53), none, .len false (.tmp 52)⟩] [⟨(some 54), none, .callF 27 [(.tmp 50), (.tmp 53)]⟩,
            ⟨(some 55), none, .un .not (.tmp 54)⟩] [[], [], [], [], [], [], [], []] [1, 3, 55])
        (.cond (.tmp 55)
          (.seq (.ops [⟨(some 2), none, .mov (.const (.int .i64 8))⟩] [2])
          (.ret))
          (.skip))))
      (.ops [⟨(some 44), none, .mov (.tmp 3)⟩,
          ⟨(some 45), none, .bin .add (.tmp 44) (.const (.int .i64 1))⟩,
          ⟨(some 3), none, .mov (.tmp 45)⟩] [1, 3]))
def c11 : AFun := ⟨
  .seq (.ops [⟨(some 1), none, .box 25 (.tmp 0)⟩,
      ⟨(some 2), none, .mov (.const (.int .i64 0))⟩] [1])
  (.seq (.seq (.ops [⟨(some 4), none, .fldA 0 (.tmp 1)⟩,
      ⟨(some 5), none, .load none (.tmp 4)⟩,
      ⟨(some 6), none, .len false (.tmp 5)⟩,
      ⟨(some 7), none, .bin .gtr (.tmp 6) (.const (.int .i64 20))⟩,
      ⟨(some 8), none, .mov (.tmp 7)⟩,
      ⟨(some 9), (some (8, false)), .fldA 1 (.tmp 1)⟩,
      ⟨(some 10), (some (8, false)), .load none (.tmp 9)⟩,
      ⟨(some 11), (some (8, false)), .len false (.tmp 10)⟩,
      ⟨(some 12), (some (8, false)), .bin .gtr (.tmp 11) (.const (.int .i64 30))⟩,
      ⟨(some 13), none, .pick (.tmp 8) (.const (.bool true)) (.tmp 12)⟩] [1, 13])
  (.cond (.tmp 13)
    (.seq (.ops [⟨(some 2), none, .mov (.const (.int .i64 4))⟩] [2])
    (.ret))
    (.skip)))
  (.seq (.seq (.ops [⟨(some 14), none, .fldA 0 (.tmp 1)⟩,
      ⟨(some 15), none, .load none (.tmp 14)⟩,
      ⟨(some 16), none, .callF 26 [(.tmp 15)]⟩,
      ⟨(some 17), none, .un .not (.tmp 16)⟩,
      ⟨(some 18), none, .mov (.tmp 17)⟩,
      ⟨(some 19), (some (18, false)), .fldA 1 (.tmp 1)⟩,
      ⟨(some 20), (some (18, false)), .load none (.tmp 19)⟩,
      ⟨(some 21), (some (18, false)), .callF 26 [(.tmp 20)]⟩,
      ⟨(some 22), (some (18, false)), .un .not (.tmp 21)⟩,
      ⟨(some 23), none, .pick (.tmp 18) (.const (.bool true)) (.tmp 22)⟩,
      ⟨(some 24), none, .mov (.tmp 23)⟩,
      ⟨(some 25), (some (24, false)), .fldA 1 (.tmp 1)⟩,
      ⟨(some 26), (some (24, false)), .load none (.tmp 25)⟩,
      ⟨(some 27), (some (24, false)), .callF 24 [(.tmp 26), (.const (.string ⟨#[115, 105, 122, 101]⟩))]⟩,
      ⟨(some 28), (some (24, false)), .bin .geq (.tmp 27) (.const (.int .i64 0))⟩,
      ⟨(some 29), none, .pick (.tmp 24) (.const (.bool true)) (.tmp 28)⟩,
      ⟨(some 30), none, .mov (.tmp 29)⟩,
      ⟨(some 31), (some (30, false)), .fldA 2 (.tmp 1)⟩,
      ⟨(some 32), (some (30, false)), .load none (.tmp 31)⟩,
      ⟨(some 33), (some (30, false)), .len false (.tmp 32)⟩,
      ⟨(some 34), (some (30, false)), .fldA 1 (.tmp 1)⟩,
      ⟨(some 35), (some (30, false)), .load none (.tmp 34)⟩,
      ⟨(some 36), (some (30, false)), .len false (.tmp 35)⟩,
      ⟨(some 37), (some (30, false)), .bin .neq (.tmp 33) (.tmp 36)⟩,
      ⟨(some 38), none, .pick (.tmp 30) (.const (.bool true)) (.tmp 37)⟩] [1, 38])
  (.cond (.tmp 38)
    (.seq (.ops [⟨(some 2), none, .mov (.const (.int .i64 8))⟩] [2])
    (.ret))
    (.skip)))
  (.seq (.seq (.ops [⟨(some 3), none, .mov (.const (.int .i64 0))⟩] [1, 3])
  (.block 0
    (.loop [1, 3]
      c11l0)))
  (.seq (.seq (.ops [⟨(some 56), none, .fldA 0 (.tmp 1)⟩,
      ⟨(some 57), none, .load none (.tmp 56)⟩,
      ⟨(some 58), none, .callF 28 [(.tmp 57)]⟩,
      ⟨(some 59), none, .mov (.tmp 58)⟩,
      ⟨(some 60), (some (59, false)), .fldA 1 (.tmp 1)⟩,
      ⟨(some 61), (some (59, false)), .load none (.tmp 60)⟩,
      ⟨(some 62), (some (59, false)), .callF 28 [(.tmp 61)]⟩,
      ⟨(some 63), none, .pick (.tmp 59) (.const (.bool true)) (.tmp 62)⟩] [63])
  (.cond (.tmp 63)
    (.seq (.ops [⟨(some 2), none, .mov (.const (.int .i64 14))⟩] [2])
    (.ret))
    (.skip)))
  (.seq (.ops [⟨(some 2), none, .mov (.const (.int .i64 0))⟩] [2])
  (.ret)))))),
  64, [(2, none)], true⟩
/- raddle/grade.Between -/
def c12l0 : AC :=
  .seq (.ops [⟨(some 54), none, .bin .lss (.tmp 53) (.tmp 52)⟩] [1, 2, 3, 11, 51, 52, 53, 54])
      (.seq (.cond (.tmp 54)
        (.skip)
        (.exit 0))
      (.seq (.block 1
        (.seq (.ops [⟨(some 55), none, .mov (.tmp 53)⟩,
            ⟨(some 56), none, .idxS 1 (.tmp 51) (.tmp 53)⟩,
            ⟨(some 57), none, .load none (.tmp 56)⟩,
            ⟨(some 12), none, .mov (.tmp 55)⟩,
            ⟨(some 13), none, .mov (.tmp 57)⟩] [1, 2, 3, 11, 12, 13, 51, 52, 53])
        (.draw [⟨(some 58), none, .mov (.tmp 11)⟩,
            ⟨(some 59), none, .mov (.tmp 12)⟩,
            ⟨(some 60), none, .mov (.tmp 13)⟩,
            ⟨(some 61), none, .mov (.tmp 1)⟩,
            ⟨(some 62), none, .idxS 1 (.tmp 60) (.tmp 61)⟩,
            ⟨(some 63), none, .load none (.tmp 62)⟩,
            ⟨(some 64), none, .mov (.tmp 3)⟩,
            ⟨(some 65), none, .mov (.tmp 2)⟩,
            ⟨(some 66), none, .bin .sub (.tmp 64) (.tmp 65)⟩,
            ⟨(some 67), none, .bin .mul (.tmp 63) (.tmp 66)⟩,
            ⟨(some 68), none, .mov (.tmp 13)⟩,
            ⟨(some 69), none, .mov (.tmp 1)⟩,
            ⟨(some 70), none, .bin .add (.tmp 69) (.const (.int .i64 1))⟩,
            ⟨(some 71), none, .idxS 1 (.tmp 68) (.tmp 70)⟩,
            ⟨(some 72), none, .load none (.tmp 71)⟩,
            ⟨(some 73), none, .mov (.tmp 2)⟩,
            ⟨(some 74), none, .bin .mul (.tmp 72) (.tmp 73)⟩,
            ⟨(some 75), none, .bin .add (.tmp 67) (.tmp 74)⟩,
            ⟨(some 76), none, .bin .mul (.const (.int .i64 2)) (.tmp 75)⟩,
            ⟨(some 77), none, .mov (.tmp 3)⟩,
            ⟨(some 78), none, .bin .add (.tmp 76) (.tmp 77)⟩,
            ⟨(some 79), none, .mov (.tmp 3)⟩,
            ⟨(some 80), none, .bin .mul (.const (.int .i64 2)) (.tmp 79)⟩,
            ⟨(some 81), none, .bin .quo (.tmp 78) (.tmp 80)⟩] [⟨(some 82), none, .idxS 1 (.tmp 58) (.tmp 59)⟩,
            ⟨none, none, .store 1 (.tmp 82) (.tmp 81)⟩] [[], [], [], [], [], [], [], [], [], [], [], [], [], [], [], [], [], [], [], [], [], [], [], []] [1, 2, 3, 11, 51, 52, 53])))
      (.ops [⟨(some 83), none, .bin .add (.tmp 53) (.const (.int .i64 1))⟩,
          ⟨(some 53), none, .mov (.tmp 83)⟩] [1, 2, 3, 11, 51, 52, 53])))
def c12 : AFun := ⟨
  .seq (.ops [⟨(some 4), none, .box 25 (.tmp 0)⟩,
      ⟨(some 8), none, .mov (.const (.slice none 0 0))⟩,
      ⟨(some 9), none, .mov (.const (.int .i64 0))⟩] [1, 2, 3, 4])
  (.seq (.seq (.ops [⟨(some 14), none, .load (some 3) (.tmp 4)⟩,
      ⟨(some 15), none, .callF 10 [(.tmp 14)]⟩,
      ⟨(some 10), none, .mov (.tmp 15)⟩] [1, 2, 3, 4, 10])
  (.seq (.ops [⟨(some 16), none, .mov (.tmp 10)⟩,
      ⟨(some 17), none, .bin .neq (.tmp 16) (.const (.int .i64 0))⟩] [1, 2, 3, 4, 10, 17])
  (.cond (.tmp 17)
    (.seq (.ops [⟨(some 18), none, .mov (.tmp 10)⟩,
        ⟨(some 8), none, .mov (.const (.slice none 0 0))⟩,
        ⟨(some 9), none, .mov (.tmp 18)⟩] [8, 9])
    (.ret))
    (.skip))))
  (.seq (.seq (.ops [⟨(some 19), none, .mov (.tmp 1)⟩,
      ⟨(some 20), none, .bin .lss (.tmp 19) (.const (.int .i64 0))⟩,
      ⟨(some 21), none, .mov (.tmp 20)⟩,
      ⟨(some 22), (some (21, false)), .mov (.tmp 1)⟩,
      ⟨(some 23), (some (21, false)), .fldA 0 (.tmp 4)⟩,
      ⟨(some 24), (some (21, false)), .load none (.tmp 23)⟩,
      ⟨(some 25), (some (21, false)), .len false (.tmp 24)⟩,
      ⟨(some 26), (some (21, false)), .bin .sub (.tmp 25) (.const (.int .i64 1))⟩,
      ⟨(some 27), (some (21, false)), .bin .geq (.tmp 22) (.tmp 26)⟩,
      ⟨(some 28), none, .pick (.tmp 21) (.const (.bool true)) (.tmp 27)⟩,
      ⟨(some 29), none, .mov (.tmp 28)⟩,
      ⟨(some 30), (some (29, false)), .mov (.tmp 3)⟩,
      ⟨(some 31), (some (29, false)), .bin .lss (.tmp 30) (.const (.int .i64 1))⟩,
      ⟨(some 32), none, .pick (.tmp 29) (.const (.bool true)) (.tmp 31)⟩,
      ⟨(some 33), none, .mov (.tmp 32)⟩,
      ⟨(some 34), (some (33, false)), .mov (.tmp 3)⟩,
      ⟨(some 35), (some (33, false)), .bin .gtr (.tmp 34) (.const (.int .i64 1000))⟩,
      ⟨(some 36), none, .pick (.tmp 33) (.const (.bool true)) (.tmp 35)⟩,
      ⟨(some 37), none, .mov (.tmp 36)⟩,
      ⟨(some 38), (some (37, false)), .mov (.tmp 2)⟩,
      ⟨(some 39), (some (37, false)), .bin .lss (.tmp 38) (.const (.int .i64 0))⟩,
      ⟨(some 40), none, .pick (.tmp 37) (.const (.bool true)) (.tmp 39)⟩,
      ⟨(some 41), none, .mov (.tmp 40)⟩,
      ⟨(some 42), (some (41, false)), .mov (.tmp 2)⟩,
      ⟨(some 43), (some (41, false)), .mov (.tmp 3)⟩,
      ⟨(some 44), (some (41, false)), .bin .gtr (.tmp 42) (.tmp 43)⟩,
      ⟨(some 45), none, .pick (.tmp 41) (.const (.bool true)) (.tmp 44)⟩] [1, 2, 3, 4, 45])
  (.cond (.tmp 45)
    (.seq (.ops [⟨(some 8), none, .mov (.const (.slice none 0 0))⟩,
        ⟨(some 9), none, .mov (.const (.int .i64 2))⟩] [8, 9])
    (.ret))
    (.skip)))
  (.seq (.ops [⟨(some 46), none, .fldA 2 (.tmp 4)⟩,
      ⟨(some 47), none, .load none (.tmp 46)⟩,
      ⟨(some 48), none, .len false (.tmp 47)⟩,
      ⟨(some 49), none, .mkSlice 3 1 8 [(.int .i64 0)] (.tmp 48) (.tmp 48)⟩,
      ⟨(some 11), none, .mov (.tmp 49)⟩] [1, 2, 3, 4, 11])
  (.seq (.seq (.ops [⟨(some 50), none, .fldA 2 (.tmp 4)⟩,
      ⟨(some 51), none, .load none (.tmp 50)⟩,
      ⟨(some 52), none, .len false (.tmp 51)⟩,
      ⟨(some 53), none, .mov (.const (.int .i64 0))⟩] [1, 2, 3, 11, 51, 52, 53])
  (.block 0
    (.loop [1, 2, 3, 11, 51, 52, 53]
      c12l0)))
  (.seq (.ops [⟨(some 84), none, .mov (.tmp 11)⟩,
      ⟨(some 8), none, .mov (.tmp 84)⟩,
      ⟨(some 9), none, .mov (.const (.int .i64 0))⟩] [8, 9])
  (.ret)))))),
  85, [(8, none), (9, none)], true⟩
/- raddle/raddleref40.Between -/
def c13l0 : AC :=
  .seq (.seq (.ops [⟨(some 45), none, .mov (.tmp 12)⟩,
          ⟨(some 46), none, .fldA 2 (.tmp 4)⟩,
          ⟨(some 47), none, .load none (.tmp 46)⟩,
          ⟨(some 48), none, .len false (.tmp 47)⟩,
          ⟨(some 49), none, .bin .lss (.tmp 45) (.tmp 48)⟩] [1, 2, 3, 4, 11, 12, 49])
      (.cond (.tmp 49)
        (.skip)
        (.exit 0)))
      (.seq (.block 1
        (.draw [⟨(some 52), none, .mov (.tmp 11)⟩,
            ⟨(some 53), none, .fldA 2 (.tmp 4)⟩,
            ⟨(some 54), none, .load none (.tmp 53)⟩,
            ⟨(some 55), none, .mov (.tmp 12)⟩,
            ⟨(some 56), none, .idxS 1 (.tmp 54) (.tmp 55)⟩,
            ⟨(some 57), none, .load none (.tmp 56)⟩,
            ⟨(some 58), none, .mov (.tmp 1)⟩,
            ⟨(some 59), none, .idxS 1 (.tmp 57) (.tmp 58)⟩,
            ⟨(some 60), none, .load none (.tmp 59)⟩,
            ⟨(some 61), none, .mov (.tmp 3)⟩,
            ⟨(some 62), none, .bin .mul (.tmp 60) (.tmp 61)⟩,
            ⟨(some 63), none, .fldA 2 (.tmp 4)⟩,
            ⟨(some 64), none, .load none (.tmp 63)⟩,
            ⟨(some 65), none, .mov (.tmp 12)⟩,
            ⟨(some 66), none, .idxS 1 (.tmp 64) (.tmp 65)⟩,
            ⟨(some 67), none, .load none (.tmp 66)⟩,
            ⟨(some 68), none, .mov (.tmp 1)⟩,
            ⟨(some 69), none, .bin .add (.tmp 68) (.const (.int .i64 1))⟩,
            ⟨(some 70), none, .idxS 1 (.tmp 67) (.tmp 69)⟩,
            ⟨(some 71), none, .load none (.tmp 70)⟩,
            ⟨(some 72), none, .fldA 2 (.tmp 4)⟩,
            ⟨(some 73), none, .load none (.tmp 72)⟩,
            ⟨(some 74), none, .mov (.tmp 12)⟩,
            ⟨(some 75), none, .idxS 1 (.tmp 73) (.tmp 74)⟩,
            ⟨(some 76), none, .load none (.tmp 75)⟩,
            ⟨(some 77), none, .mov (.tmp 1)⟩,
            ⟨(some 78), none, .idxS 1 (.tmp 76) (.tmp 77)⟩,
            ⟨(some 79), none, .load none (.tmp 78)⟩,
            ⟨(some 80), none, .bin .sub (.tmp 71) (.tmp 79)⟩,
            ⟨(some 81), none, .mov (.tmp 2)⟩,
            ⟨(some 82), none, .bin .mul (.tmp 80) (.tmp 81)⟩,
            ⟨(some 83), none, .bin .add (.tmp 62) (.tmp 82)⟩,
            ⟨(some 84), none, .mov (.tmp 3)⟩,
            ⟨(some 85), none, .callF 29 [(.tmp 83), (.tmp 84)]⟩,
            ⟨(some 86), none, .mkRow 3 1 1 [(.int .i64 0)] [(0, 1, (.tmp 85))]⟩] [⟨(some 87), none, .app 3 1 8 (.tmp 52) (.tmp 86)⟩,
            ⟨(some 11), none, .mov (.tmp 87)⟩] [[], [], [], [], [], [], [], [], [], [], [], [], [], [], [], [], [], [], [], [], [], [], [], [], [], [], [], [], [], [], [], [], [], [], []] [1, 2, 3, 4, 11, 12]))
      (.ops [⟨(some 50), none, .mov (.tmp 12)⟩,
          ⟨(some 51), none, .bin .add (.tmp 50) (.const (.int .i64 1))⟩,
          ⟨(some 12), none, .mov (.tmp 51)⟩] [1, 2, 3, 4, 11, 12]))
def c13 : AFun := ⟨
  .seq (.ops [⟨(some 4), none, .box 25 (.tmp 0)⟩,
      ⟨(some 8), none, .mov (.const (.slice none 0 0))⟩,
      ⟨(some 9), none, .mov (.const (.int .i64 0))⟩] [1, 2, 3, 4])
  (.seq (.seq (.ops [⟨(some 13), none, .load (some 3) (.tmp 4)⟩,
      ⟨(some 14), none, .callF 11 [(.tmp 13)]⟩,
      ⟨(some 10), none, .mov (.tmp 14)⟩] [1, 2, 3, 4, 10])
  (.seq (.ops [⟨(some 15), none, .mov (.tmp 10)⟩,
      ⟨(some 16), none, .bin .neq (.tmp 15) (.const (.int .i64 0))⟩] [1, 2, 3, 4, 10, 16])
  (.cond (.tmp 16)
    (.seq (.ops [⟨(some 17), none, .mov (.tmp 10)⟩,
        ⟨(some 8), none, .mov (.const (.slice none 0 0))⟩,
        ⟨(some 9), none, .mov (.tmp 17)⟩] [8, 9])
    (.ret))
    (.skip))))
  (.seq (.seq (.ops [⟨(some 18), none, .mov (.tmp 1)⟩,
      ⟨(some 19), none, .bin .lss (.tmp 18) (.const (.int .i64 0))⟩,
      ⟨(some 20), none, .mov (.tmp 19)⟩,
      ⟨(some 21), (some (20, false)), .mov (.tmp 1)⟩,
      ⟨(some 22), (some (20, false)), .fldA 0 (.tmp 4)⟩,
      ⟨(some 23), (some (20, false)), .load none (.tmp 22)⟩,
      ⟨(some 24), (some (20, false)), .len false (.tmp 23)⟩,
      ⟨(some 25), (some (20, false)), .bin .sub (.tmp 24) (.const (.int .i64 1))⟩,
      ⟨(some 26), (some (20, false)), .bin .geq (.tmp 21) (.tmp 25)⟩,
      ⟨(some 27), none, .pick (.tmp 20) (.const (.bool true)) (.tmp 26)⟩,
      ⟨(some 28), none, .mov (.tmp 27)⟩,
      ⟨(some 29), (some (28, false)), .mov (.tmp 3)⟩,
      ⟨(some 30), (some (28, false)), .bin .lss (.tmp 29) (.const (.int .i64 1))⟩,
      ⟨(some 31), none, .pick (.tmp 28) (.const (.bool true)) (.tmp 30)⟩,
      ⟨(some 32), none, .mov (.tmp 31)⟩,
      ⟨(some 33), (some (32, false)), .mov (.tmp 3)⟩,
      ⟨(some 34), (some (32, false)), .bin .gtr (.tmp 33) (.const (.int .i64 1000))⟩,
      ⟨(some 35), none, .pick (.tmp 32) (.const (.bool true)) (.tmp 34)⟩,
      ⟨(some 36), none, .mov (.tmp 35)⟩,
      ⟨(some 37), (some (36, false)), .mov (.tmp 2)⟩,
      ⟨(some 38), (some (36, false)), .bin .lss (.tmp 37) (.const (.int .i64 0))⟩,
      ⟨(some 39), none, .pick (.tmp 36) (.const (.bool true)) (.tmp 38)⟩,
      ⟨(some 40), none, .mov (.tmp 39)⟩,
      ⟨(some 41), (some (40, false)), .mov (.tmp 2)⟩,
      ⟨(some 42), (some (40, false)), .mov (.tmp 3)⟩,
      ⟨(some 43), (some (40, false)), .bin .gtr (.tmp 41) (.tmp 42)⟩,
      ⟨(some 44), none, .pick (.tmp 40) (.const (.bool true)) (.tmp 43)⟩] [1, 2, 3, 4, 44])
  (.cond (.tmp 44)
    (.seq (.ops [⟨(some 8), none, .mov (.const (.slice none 0 0))⟩,
        ⟨(some 9), none, .mov (.const (.int .i64 2))⟩] [8, 9])
    (.ret))
    (.skip)))
  (.seq (.ops [⟨(some 11), none, .mov (.const (.slice none 0 0))⟩] [1, 2, 3, 4, 11])
  (.seq (.seq (.ops [⟨(some 12), none, .mov (.const (.int .i64 0))⟩] [1, 2, 3, 4, 11, 12])
  (.block 0
    (.loop [1, 2, 3, 4, 11, 12]
      c13l0)))
  (.seq (.ops [⟨(some 88), none, .mov (.tmp 11)⟩,
      ⟨(some 8), none, .mov (.tmp 88)⟩,
      ⟨(some 9), none, .mov (.const (.int .i64 0))⟩] [8, 9])
  (.ret)))))),
  89, [(8, none), (9, none)], true⟩
/- raddle/grade.Insert -/
def c14 : AFun := ⟨
  .seq (.ops [⟨(some 5), none, .box 25 (.tmp 0)⟩,
      ⟨(some 10), none, .alloc 25 [(3, (.slice none 0 0))]⟩,
      ⟨(some 11), none, .mov (.const (.int .i64 0))⟩] [1, 2, 3, 4, 5, 10])
  (.seq (.ops [⟨(some 16), none, .load (some 3) (.tmp 5)⟩,
      ⟨(some 17), none, .mov (.tmp 1)⟩,
      ⟨(some 18), none, .mov (.tmp 3)⟩,
      ⟨(some 19), none, .mov (.tmp 4)⟩,
      ⟨(some 20), none, .callF 12 [(.tmp 16), (.tmp 17), (.tmp 18), (.tmp 19)]⟩,
      ⟨(some 15), none, .mov (.tmp 20)⟩,
      ⟨(some 21), none, .ext (.tmp 15) 0⟩,
      ⟨(some 22), none, .ext (.tmp 15) 1⟩,
      ⟨(some 12), none, .mov (.tmp 21)⟩,
      ⟨(some 13), none, .mov (.tmp 22)⟩] [1, 2, 5, 10, 12, 13])
  (.seq (.seq (.ops [⟨(some 23), none, .mov (.tmp 13)⟩,
      ⟨(some 24), none, .bin .neq (.tmp 23) (.const (.int .i64 0))⟩] [1, 2, 5, 10, 12, 13, 24])
  (.cond (.tmp 24)
    (.seq (.ops [⟨(some 25), none, .build [(.slice none 0 0), (.slice none 0 0), (.slice none 0 0)] []⟩,
        ⟨(some 26), none, .mov (.tmp 13)⟩,
        ⟨none, none, .store 3 (.tmp 10) (.tmp 25)⟩,
        ⟨(some 11), none, .mov (.tmp 26)⟩] [10, 11])
    (.ret))
    (.skip)))
  (.seq (.seq (.ops [⟨(some 27), none, .load (some 3) (.tmp 5)⟩,
      ⟨(some 28), none, .mov (.tmp 2)⟩,
      ⟨(some 29), none, .callF 30 [(.tmp 27), (.tmp 28)]⟩,
      ⟨(some 14), none, .mov (.tmp 29)⟩] [1, 2, 5, 10, 12, 14])
  (.seq (.ops [⟨(some 30), none, .mov (.tmp 14)⟩,
      ⟨(some 31), none, .bin .neq (.tmp 30) (.const (.int .i64 0))⟩] [1, 2, 5, 10, 12, 14, 31])
  (.cond (.tmp 31)
    (.seq (.ops [⟨(some 32), none, .build [(.slice none 0 0), (.slice none 0 0), (.slice none 0 0)] []⟩,
        ⟨(some 33), none, .mov (.tmp 14)⟩,
        ⟨none, none, .store 3 (.tmp 10) (.tmp 32)⟩,
        ⟨(some 11), none, .mov (.tmp 33)⟩] [10, 11])
    (.ret))
    (.skip))))
  (.seq (.ops [⟨(some 34), none, .load (some 3) (.tmp 5)⟩,
      ⟨(some 35), none, .mov (.tmp 1)⟩,
      ⟨(some 36), none, .bin .add (.tmp 35) (.const (.int .i64 1))⟩,
      ⟨(some 37), none, .mov (.tmp 2)⟩,
      ⟨(some 38), none, .mov (.tmp 12)⟩,
      ⟨(some 39), none, .callF 31 [(.tmp 34), (.tmp 36), (.tmp 37), (.tmp 38)]⟩,
      ⟨none, none, .store 3 (.tmp 10) (.tmp 39)⟩,
      ⟨(some 11), none, .mov (.const (.int .i64 0))⟩] [10, 11])
  (.ret))))),
  40, [(10, (some (some 3))), (11, none)], true⟩
/- raddle/raddleref40.Insert -/
def c15 : AFun := ⟨
  .seq (.ops [⟨(some 5), none, .box 25 (.tmp 0)⟩,
      ⟨(some 10), none, .alloc 25 [(3, (.slice none 0 0))]⟩,
      ⟨(some 11), none, .mov (.const (.int .i64 0))⟩] [1, 2, 3, 4, 5, 10])
  (.seq (.ops [⟨(some 16), none, .load (some 3) (.tmp 5)⟩,
      ⟨(some 17), none, .mov (.tmp 1)⟩,
      ⟨(some 18), none, .mov (.tmp 3)⟩,
      ⟨(some 19), none, .mov (.tmp 4)⟩,
      ⟨(some 20), none, .callF 13 [(.tmp 16), (.tmp 17), (.tmp 18), (.tmp 19)]⟩,
      ⟨(some 15), none, .mov (.tmp 20)⟩,
      ⟨(some 21), none, .ext (.tmp 15) 0⟩,
      ⟨(some 22), none, .ext (.tmp 15) 1⟩,
      ⟨(some 12), none, .mov (.tmp 21)⟩,
      ⟨(some 13), none, .mov (.tmp 22)⟩] [1, 2, 5, 10, 12, 13])
  (.seq (.seq (.ops [⟨(some 23), none, .mov (.tmp 13)⟩,
      ⟨(some 24), none, .bin .neq (.tmp 23) (.const (.int .i64 0))⟩] [1, 2, 5, 10, 12, 13, 24])
  (.cond (.tmp 24)
    (.seq (.ops [⟨(some 25), none, .build [(.slice none 0 0), (.slice none 0 0), (.slice none 0 0)] []⟩,
        ⟨(some 26), none, .mov (.tmp 13)⟩,
        ⟨none, none, .store 3 (.tmp 10) (.tmp 25)⟩,
        ⟨(some 11), none, .mov (.tmp 26)⟩] [10, 11])
    (.ret))
    (.skip)))
  (.seq (.seq (.ops [⟨(some 27), none, .load (some 3) (.tmp 5)⟩,
      ⟨(some 28), none, .mov (.tmp 2)⟩,
      ⟨(some 29), none, .callF 32 [(.tmp 27), (.tmp 28)]⟩,
      ⟨(some 14), none, .mov (.tmp 29)⟩] [1, 2, 5, 10, 12, 14])
  (.seq (.ops [⟨(some 30), none, .mov (.tmp 14)⟩,
      ⟨(some 31), none, .bin .neq (.tmp 30) (.const (.int .i64 0))⟩] [1, 2, 5, 10, 12, 14, 31])
  (.cond (.tmp 31)
    (.seq (.ops [⟨(some 32), none, .build [(.slice none 0 0), (.slice none 0 0), (.slice none 0 0)] []⟩,
        ⟨(some 33), none, .mov (.tmp 14)⟩,
        ⟨none, none, .store 3 (.tmp 10) (.tmp 32)⟩,
        ⟨(some 11), none, .mov (.tmp 33)⟩] [10, 11])
    (.ret))
    (.skip))))
  (.seq (.ops [⟨(some 34), none, .load (some 3) (.tmp 5)⟩,
      ⟨(some 35), none, .mov (.tmp 1)⟩,
      ⟨(some 36), none, .bin .add (.tmp 35) (.const (.int .i64 1))⟩,
      ⟨(some 37), none, .mov (.tmp 2)⟩,
      ⟨(some 38), none, .mov (.tmp 12)⟩,
      ⟨(some 39), none, .callF 33 [(.tmp 34), (.tmp 36), (.tmp 37), (.tmp 38)]⟩,
      ⟨none, none, .store 3 (.tmp 10) (.tmp 39)⟩,
      ⟨(some 11), none, .mov (.const (.int .i64 0))⟩] [10, 11])
  (.ret))))),
  40, [(10, (some (some 3))), (11, none)], true⟩
/- raddle/grade.Next -/
def c16l0 : AC :=
  .seq (.ops [⟨(some 39), none, .bin .lss (.tmp 38) (.tmp 37)⟩] [1, 2, 4, 7, 9, 36, 37, 38, 39])
      (.seq (.cond (.tmp 39)
        (.skip)
        (.exit 0))
      (.seq (.block 1
        (.seq (.ops [⟨(some 40), none, .mov (.tmp 38)⟩,
            ⟨(some 41), none, .idxS 1 (.tmp 36) (.tmp 38)⟩,
            ⟨(some 42), none, .load none (.tmp 41)⟩,
            ⟨(some 10), none, .mov (.tmp 40)⟩,
            ⟨(some 11), none, .mov (.tmp 42)⟩] [1, 2, 4, 7, 9, 10, 11, 36, 37, 38])
        (.seq (.draw [⟨(some 43), none, .mov (.tmp 9)⟩,
            ⟨(some 44), none, .mov (.tmp 10)⟩,
            ⟨(some 45), none, .mov (.tmp 11)⟩,
            ⟨(some 46), none, .mov (.tmp 7)⟩,
            ⟨(some 47), none, .bin .sub (.tmp 46) (.const (.int .i64 1))⟩,
            ⟨(some 48), none, .idxS 1 (.tmp 45) (.tmp 47)⟩,
            ⟨(some 49), none, .load none (.tmp 48)⟩,
            ⟨(some 50), none, .bin .mul (.const (.int .i64 2)) (.tmp 49)⟩,
            ⟨(some 51), none, .mov (.tmp 11)⟩,
            ⟨(some 52), none, .mov (.tmp 7)⟩,
            ⟨(some 53), none, .bin .sub (.tmp 52) (.const (.int .i64 2))⟩,
            ⟨(some 54), none, .idxS 1 (.tmp 51) (.tmp 53)⟩,
            ⟨(some 55), none, .load none (.tmp 54)⟩,
            ⟨(some 56), none, .bin .sub (.tmp 50) (.tmp 55)⟩] [⟨(some 57), none, .idxS 1 (.tmp 43) (.tmp 44)⟩,
            ⟨none, none, .store 1 (.tmp 57) (.tmp 56)⟩] [[], [], [], [], [], [], [], [], [], [], [], [], [], []] [1, 2, 4, 7, 9, 10, 36, 37, 38])
        (.seq (.ops [⟨(some 58), none, .mov (.tmp 9)⟩,
            ⟨(some 59), none, .mov (.tmp 10)⟩,
            ⟨(some 60), none, .idxS 1 (.tmp 58) (.tmp 59)⟩,
            ⟨(some 61), none, .load none (.tmp 60)⟩,
            ⟨(some 62), none, .bin .gtr (.tmp 61) (.const (.int .i64 1000000))⟩] [1, 2, 4, 7, 9, 36, 37, 38, 62])
        (.cond (.tmp 62)
          (.seq (.ops [⟨(some 63), none, .build [(.slice none 0 0), (.slice none 0 0), (.slice none 0 0)] []⟩,
              ⟨none, none, .store 3 (.tmp 4) (.tmp 63)⟩,
              ⟨(some 5), none, .mov (.const (.int .i64 16))⟩] [4, 5])
          (.ret))
          (.skip))))))
      (.ops [⟨(some 64), none, .bin .add (.tmp 38) (.const (.int .i64 1))⟩,
          ⟨(some 38), none, .mov (.tmp 64)⟩] [1, 2, 4, 7, 9, 36, 37, 38])))
def c16 : AFun := ⟨
  .seq (.ops [⟨(some 2), none, .box 25 (.tmp 0)⟩,
      ⟨(some 4), none, .alloc 25 [(3, (.slice none 0 0))]⟩,
      ⟨(some 5), none, .mov (.const (.int .i64 0))⟩] [1, 2, 4])
  (.seq (.seq (.ops [⟨(some 12), none, .load (some 3) (.tmp 2)⟩,
      ⟨(some 13), none, .callF 10 [(.tmp 12)]⟩,
      ⟨(some 6), none, .mov (.tmp 13)⟩] [1, 2, 4, 6])
  (.seq (.ops [⟨(some 14), none, .mov (.tmp 6)⟩,
      ⟨(some 15), none, .bin .neq (.tmp 14) (.const (.int .i64 0))⟩] [1, 2, 4, 6, 15])
  (.cond (.tmp 15)
    (.seq (.ops [⟨(some 16), none, .build [(.slice none 0 0), (.slice none 0 0), (.slice none 0 0)] []⟩,
        ⟨(some 17), none, .mov (.tmp 6)⟩,
        ⟨none, none, .store 3 (.tmp 4) (.tmp 16)⟩,
        ⟨(some 5), none, .mov (.tmp 17)⟩] [4, 5])
    (.ret))
    (.skip))))
  (.seq (.ops [⟨(some 18), none, .fldA 0 (.tmp 2)⟩,
      ⟨(some 19), none, .load none (.tmp 18)⟩,
      ⟨(some 20), none, .len false (.tmp 19)⟩,
      ⟨(some 7), none, .mov (.tmp 20)⟩] [1, 2, 4, 7])
  (.seq (.seq (.ops [⟨(some 21), none, .mov (.tmp 7)⟩,
      ⟨(some 22), none, .bin .lss (.tmp 21) (.const (.int .i64 2))⟩] [1, 2, 4, 7, 22])
  (.cond (.tmp 22)
    (.seq (.ops [⟨(some 23), none, .build [(.slice none 0 0), (.slice none 0 0), (.slice none 0 0)] []⟩,
        ⟨none, none, .store 3 (.tmp 4) (.tmp 23)⟩,
        ⟨(some 5), none, .mov (.const (.int .i64 22))⟩] [4, 5])
    (.ret))
    (.skip)))
  (.seq (.seq (.ops [⟨(some 24), none, .load (some 3) (.tmp 2)⟩,
      ⟨(some 25), none, .mov (.tmp 1)⟩,
      ⟨(some 26), none, .callF 30 [(.tmp 24), (.tmp 25)]⟩,
      ⟨(some 8), none, .mov (.tmp 26)⟩] [1, 2, 4, 7, 8])
  (.seq (.ops [⟨(some 27), none, .mov (.tmp 8)⟩,
      ⟨(some 28), none, .bin .neq (.tmp 27) (.const (.int .i64 0))⟩] [1, 2, 4, 7, 8, 28])
  (.cond (.tmp 28)
    (.seq (.ops [⟨(some 29), none, .build [(.slice none 0 0), (.slice none 0 0), (.slice none 0 0)] []⟩,
        ⟨(some 30), none, .mov (.tmp 8)⟩,
        ⟨none, none, .store 3 (.tmp 4) (.tmp 29)⟩,
        ⟨(some 5), none, .mov (.tmp 30)⟩] [4, 5])
    (.ret))
    (.skip))))
  (.seq (.ops [⟨(some 31), none, .fldA 2 (.tmp 2)⟩,
      ⟨(some 32), none, .load none (.tmp 31)⟩,
      ⟨(some 33), none, .len false (.tmp 32)⟩,
      ⟨(some 34), none, .mkSlice 3 1 8 [(.int .i64 0)] (.tmp 33) (.tmp 33)⟩,
      ⟨(some 9), none, .mov (.tmp 34)⟩] [1, 2, 4, 7, 9])
  (.seq (.seq (.ops [⟨(some 35), none, .fldA 2 (.tmp 2)⟩,
      ⟨(some 36), none, .load none (.tmp 35)⟩,
      ⟨(some 37), none, .len false (.tmp 36)⟩,
      ⟨(some 38), none, .mov (.const (.int .i64 0))⟩] [1, 2, 4, 7, 9, 36, 37, 38])
  (.block 0
    (.loop [1, 2, 4, 7, 9, 36, 37, 38]
      c16l0)))
  (.seq (.ops [⟨(some 65), none, .load (some 3) (.tmp 2)⟩,
      ⟨(some 66), none, .mov (.tmp 7)⟩,
      ⟨(some 67), none, .mov (.tmp 1)⟩,
      ⟨(some 68), none, .mov (.tmp 9)⟩,
      ⟨(some 69), none, .callF 31 [(.tmp 65), (.tmp 66), (.tmp 67), (.tmp 68)]⟩,
      ⟨none, none, .store 3 (.tmp 4) (.tmp 69)⟩,
      ⟨(some 5), none, .mov (.const (.int .i64 0))⟩] [4, 5])
  (.ret)))))))),
  70, [(4, (some (some 3))), (5, none)], true⟩
/- raddle/raddleref40.Next -/
def c17l0 : AC :=
  .seq (.seq (.ops [⟨(some 30), none, .mov (.tmp 10)⟩,
          ⟨(some 31), none, .fldA 2 (.tmp 2)⟩,
          ⟨(some 32), none, .load none (.tmp 31)⟩,
          ⟨(some 33), none, .len false (.tmp 32)⟩,
          ⟨(some 34), none, .bin .lss (.tmp 30) (.tmp 33)⟩] [1, 2, 4, 7, 9, 10, 34])
      (.cond (.tmp 34)
        (.skip)
        (.exit 0)))
      (.seq (.block 1
        (.seq (.draw [⟨(some 37), none, .mov (.tmp 9)⟩,
            ⟨(some 38), none, .fldA 2 (.tmp 2)⟩,
            ⟨(some 39), none, .load none (.tmp 38)⟩,
            ⟨(some 40), none, .mov (.tmp 10)⟩,
            ⟨(some 41), none, .idxS 1 (.tmp 39) (.tmp 40)⟩,
            ⟨(some 42), none, .load none (.tmp 41)⟩,
            ⟨(some 43), none, .mov (.tmp 7)⟩,
            ⟨(some 44), none, .bin .sub (.tmp 43) (.const (.int .i64 1))⟩,
            ⟨(some 45), none, .idxS 1 (.tmp 42) (.tmp 44)⟩,
            ⟨(some 46), none, .load none (.tmp 45)⟩,
            ⟨(some 47), none, .bin .mul (.const (.int .i64 2)) (.tmp 46)⟩,
            ⟨(some 48), none, .fldA 2 (.tmp 2)⟩,
            ⟨(some 49), none, .load none (.tmp 48)⟩,
            ⟨(some 50), none, .mov (.tmp 10)⟩,
            ⟨(some 51), none, .idxS 1 (.tmp 49) (.tmp 50)⟩,
            ⟨(some 52), none, .load none (.tmp 51)⟩,
            ⟨(some 53), none, .mov (.tmp 7)⟩,
            ⟨(some 54), none, .bin .sub (.tmp 53) (.const (.int .i64 2))⟩,
            ⟨(some 55), none, .idxS 1 (.tmp 52) (.tmp 54)⟩,
            ⟨(some 56), none, .load none (.tmp 55)⟩,
            ⟨(some 57), none, .bin .sub (.tmp 47) (.tmp 56)⟩,
            ⟨(some 58), none, .mkRow 3 1 1 [(.int .i64 0)] [(0, 1, (.tmp 57))]⟩] [⟨(some 59), none, .app 3 1 8 (.tmp 37) (.tmp 58)⟩,
            ⟨(some 9), none, .mov (.tmp 59)⟩] [[], [], [], [], [], [], [], [], [], [], [], [], [], [], [], [], [], [], [], [], [], []] [1, 2, 4, 7, 9, 10])
        (.seq (.ops [⟨(some 60), none, .mov (.tmp 9)⟩,
            ⟨(some 61), none, .mov (.tmp 10)⟩,
            ⟨(some 62), none, .idxS 1 (.tmp 60) (.tmp 61)⟩,
            ⟨(some 63), none, .load none (.tmp 62)⟩,
            ⟨(some 64), none, .bin .gtr (.tmp 63) (.const (.int .i64 1000000))⟩] [1, 2, 4, 7, 9, 10, 64])
        (.cond (.tmp 64)
          (.seq (.ops [⟨(some 65), none, .build [(.slice none 0 0), (.slice none 0 0), (.slice none 0 0)] []⟩,
              ⟨none, none, .store 3 (.tmp 4) (.tmp 65)⟩,
              ⟨(some 5), none, .mov (.const (.int .i64 16))⟩] [4, 5])
          (.ret))
          (.skip)))))
      (.ops [⟨(some 35), none, .mov (.tmp 10)⟩,
          ⟨(some 36), none, .bin .add (.tmp 35) (.const (.int .i64 1))⟩,
          ⟨(some 10), none, .mov (.tmp 36)⟩] [1, 2, 4, 7, 9, 10]))
def c17 : AFun := ⟨
  .seq (.ops [⟨(some 2), none, .box 25 (.tmp 0)⟩,
      ⟨(some 4), none, .alloc 25 [(3, (.slice none 0 0))]⟩,
      ⟨(some 5), none, .mov (.const (.int .i64 0))⟩] [1, 2, 4])
  (.seq (.seq (.ops [⟨(some 11), none, .load (some 3) (.tmp 2)⟩,
      ⟨(some 12), none, .callF 11 [(.tmp 11)]⟩,
      ⟨(some 6), none, .mov (.tmp 12)⟩] [1, 2, 4, 6])
  (.seq (.ops [⟨(some 13), none, .mov (.tmp 6)⟩,
      ⟨(some 14), none, .bin .neq (.tmp 13) (.const (.int .i64 0))⟩] [1, 2, 4, 6, 14])
  (.cond (.tmp 14)
    (.seq (.ops [⟨(some 15), none, .build [(.slice none 0 0), (.slice none 0 0), (.slice none 0 0)] []⟩,
        ⟨(some 16), none, .mov (.tmp 6)⟩,
        ⟨none, none, .store 3 (.tmp 4) (.tmp 15)⟩,
        ⟨(some 5), none, .mov (.tmp 16)⟩] [4, 5])
    (.ret))
    (.skip))))
  (.seq (.ops [⟨(some 17), none, .fldA 0 (.tmp 2)⟩,
      ⟨(some 18), none, .load none (.tmp 17)⟩,
      ⟨(some 19), none, .len false (.tmp 18)⟩,
      ⟨(some 7), none, .mov (.tmp 19)⟩] [1, 2, 4, 7])
  (.seq (.seq (.ops [⟨(some 20), none, .mov (.tmp 7)⟩,
      ⟨(some 21), none, .bin .lss (.tmp 20) (.const (.int .i64 2))⟩] [1, 2, 4, 7, 21])
  (.cond (.tmp 21)
    (.seq (.ops [⟨(some 22), none, .build [(.slice none 0 0), (.slice none 0 0), (.slice none 0 0)] []⟩,
        ⟨none, none, .store 3 (.tmp 4) (.tmp 22)⟩,
        ⟨(some 5), none, .mov (.const (.int .i64 22))⟩] [4, 5])
    (.ret))
    (.skip)))
  (.seq (.seq (.ops [⟨(some 23), none, .load (some 3) (.tmp 2)⟩,
      ⟨(some 24), none, .mov (.tmp 1)⟩,
      ⟨(some 25), none, .callF 32 [(.tmp 23), (.tmp 24)]⟩,
      ⟨(some 8), none, .mov (.tmp 25)⟩] [1, 2, 4, 7, 8])
  (.seq (.ops [⟨(some 26), none, .mov (.tmp 8)⟩,
      ⟨(some 27), none, .bin .neq (.tmp 26) (.const (.int .i64 0))⟩] [1, 2, 4, 7, 8, 27])
  (.cond (.tmp 27)
    (.seq (.ops [⟨(some 28), none, .build [(.slice none 0 0), (.slice none 0 0), (.slice none 0 0)] []⟩,
        ⟨(some 29), none, .mov (.tmp 8)⟩,
        ⟨none, none, .store 3 (.tmp 4) (.tmp 28)⟩,
        ⟨(some 5), none, .mov (.tmp 29)⟩] [4, 5])
    (.ret))
    (.skip))))
  (.seq (.ops [⟨(some 9), none, .mov (.const (.slice none 0 0))⟩] [1, 2, 4, 7, 9])
  (.seq (.seq (.ops [⟨(some 10), none, .mov (.const (.int .i64 0))⟩] [1, 2, 4, 7, 9, 10])
  (.block 0
    (.loop [1, 2, 4, 7, 9, 10]
      c17l0)))
  (.seq (.ops [⟨(some 66), none, .load (some 3) (.tmp 2)⟩,
      ⟨(some 67), none, .mov (.tmp 7)⟩,
      ⟨(some 68), none, .mov (.tmp 1)⟩,
      ⟨(some 69), none, .mov (.tmp 9)⟩,
      ⟨(some 70), none, .callF 33 [(.tmp 66), (.tmp 67), (.tmp 68), (.tmp 69)]⟩,
      ⟨none, none, .store 3 (.tmp 4) (.tmp 70)⟩,
      ⟨(some 5), none, .mov (.const (.int .i64 0))⟩] [4, 5])
  (.ret)))))))),
  71, [(4, (some (some 3))), (5, none)], true⟩
/- raddle/grade.Snap -/
def c18 : AFun := ⟨
  .seq (.ops [⟨(some 2), none, .box 25 (.tmp 0)⟩,
      ⟨(some 3), none, .box 3 (.tmp 1)⟩,
      ⟨(some 4), none, .alloc 25 [(3, (.slice none 0 0))]⟩,
      ⟨(some 5), none, .mov (.const (.int .i64 0))⟩] [2, 3, 4])
  (.seq (.seq (.ops [⟨(some 9), none, .load (some 3) (.tmp 2)⟩,
      ⟨(some 10), none, .callF 10 [(.tmp 9)]⟩,
      ⟨(some 6), none, .mov (.tmp 10)⟩] [2, 3, 4, 6])
  (.seq (.ops [⟨(some 11), none, .mov (.tmp 6)⟩,
      ⟨(some 12), none, .bin .neq (.tmp 11) (.const (.int .i64 0))⟩] [2, 3, 4, 6, 12])
  (.cond (.tmp 12)
    (.seq (.ops [⟨(some 13), none, .build [(.slice none 0 0), (.slice none 0 0), (.slice none 0 0)] []⟩,
        ⟨(some 14), none, .mov (.tmp 6)⟩,
        ⟨none, none, .store 3 (.tmp 4) (.tmp 13)⟩,
        ⟨(some 5), none, .mov (.tmp 14)⟩] [4, 5])
    (.ret))
    (.skip))))
  (.seq (.seq (.ops [⟨(some 15), none, .load none (.tmp 3)⟩,
      ⟨(some 16), none, .bin .lss (.tmp 15) (.const (.int .i64 1))⟩,
      ⟨(some 17), none, .mov (.tmp 16)⟩,
      ⟨(some 18), (some (17, false)), .load none (.tmp 3)⟩,
      ⟨(some 19), (some (17, false)), .bin .gtr (.tmp 18) (.const (.int .i64 10000))⟩,
      ⟨(some 20), none, .pick (.tmp 17) (.const (.bool true)) (.tmp 19)⟩] [2, 3, 4, 20])
  (.cond (.tmp 20)
    (.seq (.ops [⟨(some 21), none, .build [(.slice none 0 0), (.slice none 0 0), (.slice none 0 0)] []⟩,
        ⟨none, none, .store 3 (.tmp 4) (.tmp 21)⟩,
        ⟨(some 5), none, .mov (.const (.int .i64 2))⟩] [4, 5])
    (.ret))
    (.skip)))
  (.seq (.ops [⟨(some 7), none, .alloc 4 [(1, (.bool false))]⟩,
      ⟨none, none, .store 1 (.tmp 7) (.const (.bool true))⟩] [2, 3, 4, 7])
  (.seq (.ops [⟨(some 22), none, .load (some 3) (.tmp 2)⟩,
      ⟨(some 23), none, .mkFn 35 [] [(.tmp 3), (.tmp 7)]⟩,
      ⟨(some 24), none, .callF 34 [(.tmp 22), (.tmp 23)]⟩,
      ⟨(some 8), none, .alloc 25 [(3, (.slice none 0 0))]⟩,
      ⟨none, none, .store 3 (.tmp 8) (.tmp 24)⟩] [4, 7, 8])
  (.seq (.seq (.ops [⟨(some 25), none, .load none (.tmp 7)⟩,
      ⟨(some 26), none, .un .not (.tmp 25)⟩] [4, 8, 26])
  (.cond (.tmp 26)
    (.seq (.ops [⟨(some 27), none, .build [(.slice none 0 0), (.slice none 0 0), (.slice none 0 0)] []⟩,
        ⟨none, none, .store 3 (.tmp 4) (.tmp 27)⟩,
        ⟨(some 5), none, .mov (.const (.int .i64 16))⟩] [4, 5])
    (.ret))
    (.skip)))
  (.seq (.ops [⟨(some 28), none, .load (some 3) (.tmp 8)⟩,
      ⟨none, none, .store 3 (.tmp 4) (.tmp 28)⟩,
      ⟨(some 5), none, .mov (.const (.int .i64 0))⟩] [4, 5])
  (.ret))))))),
  29, [(4, (some (some 3))), (5, none)], true⟩
/- raddle/raddleref40.Snap -/
def c19l0 : AC :=
  .seq (.seq (.ops [⟨(some 40), none, .mov (.tmp 10)⟩,
                ⟨(some 41), none, .fldA 2 (.tmp 2)⟩,
                ⟨(some 42), none, .load none (.tmp 41)⟩,
                ⟨(some 43), none, .mov (.tmp 8)⟩,
                ⟨(some 44), none, .idxS 1 (.tmp 42) (.tmp 43)⟩,
                ⟨(some 45), none, .load none (.tmp 44)⟩,
                ⟨(some 46), none, .len false (.tmp 45)⟩,
                ⟨(some 47), none, .bin .lss (.tmp 40) (.tmp 46)⟩] [1, 2, 4, 7, 8, 9, 10, 47])
            (.cond (.tmp 47)
              (.skip)
              (.exit 2)))
            (.seq (.block 3
              (.seq (.ops [⟨(some 50), none, .mov (.tmp 9)⟩,
                  ⟨(some 51), none, .mov (.tmp 1)⟩,
                  ⟨(some 52), none, .fldA 2 (.tmp 2)⟩,
                  ⟨(some 53), none, .load none (.tmp 52)⟩,
                  ⟨(some 54), none, .mov (.tmp 8)⟩,
                  ⟨(some 55), none, .idxS 1 (.tmp 53) (.tmp 54)⟩,
                  ⟨(some 56), none, .load none (.tmp 55)⟩,
                  ⟨(some 57), none, .mov (.tmp 10)⟩,
                  ⟨(some 58), none, .idxS 1 (.tmp 56) (.tmp 57)⟩,
                  ⟨(some 59), none, .load none (.tmp 58)⟩,
                  ⟨(some 60), none, .mov (.tmp 1)⟩,
                  ⟨(some 61), none, .callF 29 [(.tmp 59), (.tmp 60)]⟩,
                  ⟨(some 62), none, .bin .mul (.tmp 51) (.tmp 61)⟩,
                  ⟨(some 63), none, .mkRow 3 1 1 [(.int .i64 0)] [(0, 1, (.tmp 62))]⟩,
                  ⟨(some 64), none, .app 3 1 8 (.tmp 50) (.tmp 63)⟩,
                  ⟨(some 9), none, .mov (.tmp 64)⟩] [1, 2, 4, 7, 8, 9, 10])
              (.seq (.ops [⟨(some 65), none, .mov (.tmp 9)⟩,
                  ⟨(some 66), none, .mov (.tmp 10)⟩,
                  ⟨(some 67), none, .idxS 1 (.tmp 65) (.tmp 66)⟩,
                  ⟨(some 68), none, .load none (.tmp 67)⟩,
                  ⟨(some 69), none, .bin .gtr (.tmp 68) (.const (.int .i64 1000000))⟩] [1, 2, 4, 7, 8, 9, 10, 69])
              (.cond (.tmp 69)
                (.seq (.ops [⟨(some 70), none, .build [(.slice none 0 0), (.slice none 0 0), (.slice none 0 0)] []⟩,
                    ⟨none, none, .store 3 (.tmp 4) (.tmp 70)⟩,
                    ⟨(some 5), none, .mov (.const (.int .i64 16))⟩] [4, 5])
                (.ret))
                (.skip)))))
            (.ops [⟨(some 48), none, .mov (.tmp 10)⟩,
                ⟨(some 49), none, .bin .add (.tmp 48) (.const (.int .i64 1))⟩,
                ⟨(some 10), none, .mov (.tmp 49)⟩] [1, 2, 4, 7, 8, 9, 10]))
def c19l1 : AC :=
  .seq (.seq (.ops [⟨(some 33), none, .mov (.tmp 8)⟩,
          ⟨(some 34), none, .fldA 2 (.tmp 2)⟩,
          ⟨(some 35), none, .load none (.tmp 34)⟩,
          ⟨(some 36), none, .len false (.tmp 35)⟩,
          ⟨(some 37), none, .bin .lss (.tmp 33) (.tmp 36)⟩] [1, 2, 4, 7, 8, 37])
      (.cond (.tmp 37)
        (.skip)
        (.exit 0)))
      (.seq (.block 1
        (.seq (.ops [⟨(some 9), none, .mov (.const (.slice none 0 0))⟩] [1, 2, 4, 7, 8, 9])
        (.seq (.seq (.ops [⟨(some 10), none, .mov (.const (.int .i64 0))⟩] [1, 2, 4, 7, 8, 9, 10])
        (.block 2
          (.loop [1, 2, 4, 7, 8, 9, 10]
            c19l0)))
        (.ops [⟨(some 71), none, .fldA 2 (.tmp 7)⟩,
            ⟨(some 72), none, .load none (.tmp 71)⟩,
            ⟨(some 73), none, .mov (.tmp 9)⟩,
            ⟨(some 74), none, .mkRow 39 1 1 [(.slice none 0 0)] [(0, 1, (.tmp 73))]⟩,
            ⟨(some 75), none, .app 39 1 24 (.tmp 72) (.tmp 74)⟩,
            ⟨(some 76), none, .fldA 2 (.tmp 7)⟩,
            ⟨none, none, .store 1 (.tmp 76) (.tmp 75)⟩] [1, 2, 4, 7, 8]))))
      (.ops [⟨(some 38), none, .mov (.tmp 8)⟩,
          ⟨(some 39), none, .bin .add (.tmp 38) (.const (.int .i64 1))⟩,
          ⟨(some 8), none, .mov (.tmp 39)⟩] [1, 2, 4, 7, 8]))
def c19 : AFun := ⟨
  .seq (.ops [⟨(some 2), none, .box 25 (.tmp 0)⟩,
      ⟨(some 4), none, .alloc 25 [(3, (.slice none 0 0))]⟩,
      ⟨(some 5), none, .mov (.const (.int .i64 0))⟩] [1, 2, 4])
  (.seq (.seq (.ops [⟨(some 11), none, .load (some 3) (.tmp 2)⟩,
      ⟨(some 12), none, .callF 11 [(.tmp 11)]⟩,
      ⟨(some 6), none, .mov (.tmp 12)⟩] [1, 2, 4, 6])
  (.seq (.ops [⟨(some 13), none, .mov (.tmp 6)⟩,
      ⟨(some 14), none, .bin .neq (.tmp 13) (.const (.int .i64 0))⟩] [1, 2, 4, 6, 14])
  (.cond (.tmp 14)
    (.seq (.ops [⟨(some 15), none, .build [(.slice none 0 0), (.slice none 0 0), (.slice none 0 0)] []⟩,
        ⟨(some 16), none, .mov (.tmp 6)⟩,
        ⟨none, none, .store 3 (.tmp 4) (.tmp 15)⟩,
        ⟨(some 5), none, .mov (.tmp 16)⟩] [4, 5])
    (.ret))
    (.skip))))
  (.seq (.seq (.ops [⟨(some 17), none, .mov (.tmp 1)⟩,
      ⟨(some 18), none, .bin .lss (.tmp 17) (.const (.int .i64 1))⟩,
      ⟨(some 19), none, .mov (.tmp 18)⟩,
      ⟨(some 20), (some (19, false)), .mov (.tmp 1)⟩,
      ⟨(some 21), (some (19, false)), .bin .gtr (.tmp 20) (.const (.int .i64 10000))⟩,
      ⟨(some 22), none, .pick (.tmp 19) (.const (.bool true)) (.tmp 21)⟩] [1, 2, 4, 22])
  (.cond (.tmp 22)
    (.seq (.ops [⟨(some 23), none, .build [(.slice none 0 0), (.slice none 0 0), (.slice none 0 0)] []⟩,
        ⟨none, none, .store 3 (.tmp 4) (.tmp 23)⟩,
        ⟨(some 5), none, .mov (.const (.int .i64 2))⟩] [4, 5])
    (.ret))
    (.skip)))
  (.seq (.draw [⟨(some 24), none, .mkRow 9 1 0 [(.string ⟨#[]⟩)] []⟩,
      ⟨(some 25), none, .fldA 0 (.tmp 2)⟩,
      ⟨(some 26), none, .load none (.tmp 25)⟩,
      ⟨(some 27), none, .app 9 1 16 (.tmp 24) (.tmp 26)⟩,
      ⟨(some 28), none, .mkRow 9 1 0 [(.string ⟨#[]⟩)] []⟩,
      ⟨(some 29), none, .fldA 1 (.tmp 2)⟩,
      ⟨(some 30), none, .load none (.tmp 29)⟩,
      ⟨(some 31), none, .app 9 1 16 (.tmp 28) (.tmp 30)⟩,
      ⟨(some 32), none, .build [(.slice none 0 0), (.slice none 0 0), (.slice none 0 0)] [(0, 1, (.tmp 27)), (1, 1, (.tmp 31))]⟩,
      ⟨(some 7), none, .alloc 25 [(3, (.slice none 0 0))]⟩] [⟨none, none, .store 3 (.tmp 7) (.tmp 32)⟩] [[], [false], [true, false], [], [false, false, false, false], [false, false, false, false, false], [true, false, false, false, false, false], [], [], [false, false, false, false, false, false, false, false, false]] [1, 2, 4, 7])
  (.seq (.seq (.ops [⟨(some 8), none, .mov (.const (.int .i64 0))⟩] [1, 2, 4, 7, 8])
  (.block 0
    (.loop [1, 2, 4, 7, 8]
      c19l1)))
  (.seq (.ops [⟨(some 77), none, .load (some 3) (.tmp 7)⟩,
      ⟨none, none, .store 3 (.tmp 4) (.tmp 77)⟩,
      ⟨(some 5), none, .mov (.const (.int .i64 0))⟩] [4, 5])
  (.ret)))))),
  78, [(4, (some (some 3))), (5, none)], true⟩
/- raddle/raddleref36.Same -/
def c20l0 : AC :=
  .seq (.seq (.ops [⟨(some 11), none, .mov (.tmp 5)⟩,
          ⟨(some 12), none, .mov (.tmp 0)⟩,
          ⟨(some 13), none, .len false (.tmp 12)⟩,
          ⟨(some 14), none, .bin .lss (.tmp 11) (.tmp 13)⟩] [0, 1, 5, 14])
      (.cond (.tmp 14)
        (.skip)
        (.exit 0)))
      (.seq (.block 1
        (.seq (.draw [⟨(some 17), none, .mov (.tmp 0)⟩,
            ⟨(some 18), none, .mov (.tmp 5)⟩,
            ⟨(some 19), none, .idxS 1 (.tmp 17) (.tmp 18)⟩,
            ⟨(some 20), none, .load none (.tmp 19)⟩,
            ⟨(some 21), none, .mov (.tmp 1)⟩,
            ⟨(some 22), none, .mov (.tmp 5)⟩,
            ⟨(some 23), none, .idxS 1 (.tmp 21) (.tmp 22)⟩,
            ⟨(some 24), none, .load none (.tmp 23)⟩] [⟨(some 25), none, .bin .neq (.tmp 20) (.tmp 24)⟩] [[], [], [], [], [], [], [], []] [0, 1, 5, 25])
        (.cond (.tmp 25)
          (.seq (.ops [⟨(some 4), none, .mov (.const (.bool false))⟩] [4])
          (.ret))
          (.skip))))
      (.ops [⟨(some 15), none, .mov (.tmp 5)⟩,
          ⟨(some 16), none, .bin .add (.tmp 15) (.const (.int .i64 1))⟩,
          ⟨(some 5), none, .mov (.tmp 16)⟩] [0, 1, 5]))
def c20 : AFun := ⟨
  .seq (.ops [⟨(some 4), none, .mov (.const (.bool false))⟩] [0, 1])
  (.seq (.seq (.ops [⟨(some 6), none, .mov (.tmp 0)⟩,
      ⟨(some 7), none, .len false (.tmp 6)⟩,
      ⟨(some 8), none, .mov (.tmp 1)⟩,
      ⟨(some 9), none, .len false (.tmp 8)⟩,
      ⟨(some 10), none, .bin .neq (.tmp 7) (.tmp 9)⟩] [0, 1, 10])
  (.cond (.tmp 10)
    (.seq (.ops [⟨(some 4), none, .mov (.const (.bool false))⟩] [4])
    (.ret))
    (.skip)))
  (.seq (.seq (.ops [⟨(some 5), none, .mov (.const (.int .i64 0))⟩] [0, 1, 5])
  (.block 0
    (.loop [0, 1, 5]
      c20l0)))
  (.seq (.ops [⟨(some 4), none, .mov (.const (.bool true))⟩] [4])
  (.ret)))),
  26, [(4, none)], true⟩
/- raddle/raddleref40.Same -/
def c21l0 : AC :=
  .seq (.seq (.ops [⟨(some 69), none, .mov (.tmp 7)⟩,
          ⟨(some 70), none, .fldA 2 (.tmp 2)⟩,
          ⟨(some 71), none, .load none (.tmp 70)⟩,
          ⟨(some 72), none, .len false (.tmp 71)⟩,
          ⟨(some 73), none, .bin .lss (.tmp 69) (.tmp 72)⟩] [2, 3, 7, 73])
      (.cond (.tmp 73)
        (.skip)
        (.exit 4)))
      (.seq (.block 5
        (.seq (.draw [⟨(some 76), none, .fldA 2 (.tmp 2)⟩,
            ⟨(some 77), none, .load none (.tmp 76)⟩,
            ⟨(some 78), none, .mov (.tmp 7)⟩,
            ⟨(some 79), none, .idxS 1 (.tmp 77) (.tmp 78)⟩,
            ⟨(some 80), none, .load none (.tmp 79)⟩,
            ⟨(some 81), none, .fldA 2 (.tmp 3)⟩,
            ⟨(some 82), none, .load none (.tmp 81)⟩,
            ⟨(some 83), none, .mov (.tmp 7)⟩,
            ⟨(some 84), none, .idxS 1 (.tmp 82) (.tmp 83)⟩,
            ⟨(some 85), none, .load none (.tmp 84)⟩] [⟨(some 86), none, .callF 20 [(.tmp 80), (.tmp 85)]⟩,
            ⟨(some 87), none, .un .not (.tmp 86)⟩] [[], [], [], [], [], [], [], [], [], []] [2, 3, 7, 87])
        (.cond (.tmp 87)
          (.seq (.ops [⟨(some 4), none, .mov (.const (.bool false))⟩] [4])
          (.ret))
          (.skip))))
      (.ops [⟨(some 74), none, .mov (.tmp 7)⟩,
          ⟨(some 75), none, .bin .add (.tmp 74) (.const (.int .i64 1))⟩,
          ⟨(some 7), none, .mov (.tmp 75)⟩] [2, 3, 7]))
def c21l1 : AC :=
  .seq (.seq (.ops [⟨(some 51), none, .mov (.tmp 6)⟩,
          ⟨(some 52), none, .fldA 1 (.tmp 2)⟩,
          ⟨(some 53), none, .load none (.tmp 52)⟩,
          ⟨(some 54), none, .len false (.tmp 53)⟩,
          ⟨(some 55), none, .bin .lss (.tmp 51) (.tmp 54)⟩] [2, 3, 6, 55])
      (.cond (.tmp 55)
        (.skip)
        (.exit 2)))
      (.seq (.block 3
        (.seq (.draw [⟨(some 58), none, .fldA 1 (.tmp 2)⟩,
            ⟨(some 59), none, .load none (.tmp 58)⟩,
            ⟨(some 60), none, .mov (.tmp 6)⟩,
            ⟨(some 61), none, .idxS 1 (.tmp 59) (.tmp 60)⟩,
            ⟨(some 62), none, .load none (.tmp 61)⟩,
            ⟨(some 63), none, .fldA 1 (.tmp 3)⟩,
            ⟨(some 64), none, .load none (.tmp 63)⟩,
            ⟨(some 65), none, .mov (.tmp 6)⟩,
            ⟨(some 66), none, .idxS 1 (.tmp 64) (.tmp 65)⟩,
            ⟨(some 67), none, .load none (.tmp 66)⟩] [⟨(some 68), none, .bin .neq (.tmp 62) (.tmp 67)⟩] [[], [], [], [], [], [], [], [], [], []] [2, 3, 6, 68])
        (.cond (.tmp 68)
          (.seq (.ops [⟨(some 4), none, .mov (.const (.bool false))⟩] [4])
          (.ret))
          (.skip))))
      (.ops [⟨(some 56), none, .mov (.tmp 6)⟩,
          ⟨(some 57), none, .bin .add (.tmp 56) (.const (.int .i64 1))⟩,
          ⟨(some 6), none, .mov (.tmp 57)⟩] [2, 3, 6]))
def c21l2 : AC :=
  .seq (.seq (.ops [⟨(some 33), none, .mov (.tmp 5)⟩,
          ⟨(some 34), none, .fldA 0 (.tmp 2)⟩,
          ⟨(some 35), none, .load none (.tmp 34)⟩,
          ⟨(some 36), none, .len false (.tmp 35)⟩,
          ⟨(some 37), none, .bin .lss (.tmp 33) (.tmp 36)⟩] [2, 3, 5, 37])
      (.cond (.tmp 37)
        (.skip)
        (.exit 0)))
      (.seq (.block 1
        (.seq (.draw [⟨(some 40), none, .fldA 0 (.tmp 2)⟩,
            ⟨(some 41), none, .load none (.tmp 40)⟩,
            ⟨(some 42), none, .mov (.tmp 5)⟩,
            ⟨(some 43), none, .idxS 1 (.tmp 41) (.tmp 42)⟩,
            ⟨(some 44), none, .load none (.tmp 43)⟩,
            ⟨(some 45), none, .fldA 0 (.tmp 3)⟩,
            ⟨(some 46), none, .load none (.tmp 45)⟩,
            ⟨(some 47), none, .mov (.tmp 5)⟩,
            ⟨(some 48), none, .idxS 1 (.tmp 46) (.tmp 47)⟩,
            ⟨(some 49), none, .load none (.tmp 48)⟩] [⟨(some 50), none, .bin .neq (.tmp 44) (.tmp 49)⟩] [[], [], [], [], [], [], [], [], [], []] [2, 3, 5, 50])
        (.cond (.tmp 50)
          (.seq (.ops [⟨(some 4), none, .mov (.const (.bool false))⟩] [4])
          (.ret))
          (.skip))))
      (.ops [⟨(some 38), none, .mov (.tmp 5)⟩,
          ⟨(some 39), none, .bin .add (.tmp 38) (.const (.int .i64 1))⟩,
          ⟨(some 5), none, .mov (.tmp 39)⟩] [2, 3, 5]))
def c21 : AFun := ⟨
  .seq (.ops [⟨(some 2), none, .box 25 (.tmp 0)⟩,
      ⟨(some 3), none, .box 25 (.tmp 1)⟩,
      ⟨(some 4), none, .mov (.const (.bool false))⟩] [2, 3])
  (.seq (.seq (.ops [⟨(some 8), none, .fldA 0 (.tmp 2)⟩,
      ⟨(some 9), none, .load none (.tmp 8)⟩,
      ⟨(some 10), none, .len false (.tmp 9)⟩,
      ⟨(some 11), none, .fldA 0 (.tmp 3)⟩,
      ⟨(some 12), none, .load none (.tmp 11)⟩,
      ⟨(some 13), none, .len false (.tmp 12)⟩,
      ⟨(some 14), none, .bin .neq (.tmp 10) (.tmp 13)⟩,
      ⟨(some 15), none, .mov (.tmp 14)⟩,
      ⟨(some 16), (some (15, false)), .fldA 1 (.tmp 2)⟩,
      ⟨(some 17), (some (15, false)), .load none (.tmp 16)⟩,
      ⟨(some 18), (some (15, false)), .len false (.tmp 17)⟩,
      ⟨(some 19), (some (15, false)), .fldA 1 (.tmp 3)⟩,
      ⟨(some 20), (some (15, false)), .load none (.tmp 19)⟩,
      ⟨(some 21), (some (15, false)), .len false (.tmp 20)⟩,
      ⟨(some 22), (some (15, false)), .bin .neq (.tmp 18) (.tmp 21)⟩,
      ⟨(some 23), none, .pick (.tmp 15) (.const (.bool true)) (.tmp 22)⟩,
      ⟨(some 24), none, .mov (.tmp 23)⟩,
      ⟨(some 25), (some (24, false)), .fldA 2 (.tmp 2)⟩,
      ⟨(some 26), (some (24, false)), .load none (.tmp 25)⟩,
      ⟨(some 27), (some (24, false)), .len false (.tmp 26)⟩,
      ⟨(some 28), (some (24, false)), .fldA 2 (.tmp 3)⟩,
      ⟨(some 29), (some (24, false)), .load none (.tmp 28)⟩,
      ⟨(some 30), (some (24, false)), .len false (.tmp 29)⟩,
      ⟨(some 31), (some (24, false)), .bin .neq (.tmp 27) (.tmp 30)⟩,
      ⟨(some 32), none, .pick (.tmp 24) (.const (.bool true)) (.tmp 31)⟩] [2, 3, 32])
  (.cond (.tmp 32)
    (.seq (.ops [⟨(some 4), none, .mov (.const (.bool false))⟩] [4])
    (.ret))
    (.skip)))
  (.seq (.seq (.ops [⟨(some 5), none, .mov (.const (.int .i64 0))⟩] [2, 3, 5])
  (.block 0
    (.loop [2, 3, 5]
      c21l2)))
  (.seq (.seq (.ops [⟨(some 6), none, .mov (.const (.int .i64 0))⟩] [2, 3, 6])
  (.block 2
    (.loop [2, 3, 6]
      c21l1)))
  (.seq (.seq (.ops [⟨(some 7), none, .mov (.const (.int .i64 0))⟩] [2, 3, 7])
  (.block 4
    (.loop [2, 3, 7]
      c21l0)))
  (.seq (.ops [⟨(some 4), none, .mov (.const (.bool true))⟩] [4])
  (.ret)))))),
  88, [(4, none)], true⟩
/- raddle/raddlelaw40.spoil -/
def c22l0 : AC :=
  .seq (.seq (.ops [⟨(some 41), none, .mov (.tmp 5)⟩,
          ⟨(some 42), none, .fldA 1 (.tmp 1)⟩,
          ⟨(some 43), none, .load none (.tmp 42)⟩,
          ⟨(some 44), none, .len false (.tmp 43)⟩,
          ⟨(some 45), none, .bin .lss (.tmp 41) (.tmp 44)⟩] [1, 5, 45])
      (.cond (.tmp 45)
        (.skip)
        (.exit 6)))
      (.seq (.block 7
        (.ops [⟨(some 48), none, .fldA 1 (.tmp 1)⟩,
            ⟨(some 49), none, .load none (.tmp 48)⟩,
            ⟨(some 50), none, .mov (.tmp 5)⟩,
            ⟨(some 51), none, .idxS 1 (.tmp 49) (.tmp 50)⟩,
            ⟨none, none, .store 1 (.tmp 51) (.const (.string ⟨#[63]⟩))⟩] [1, 5]))
      (.ops [⟨(some 46), none, .mov (.tmp 5)⟩,
          ⟨(some 47), none, .bin .add (.tmp 46) (.const (.int .i64 1))⟩,
          ⟨(some 5), none, .mov (.tmp 47)⟩] [1, 5]))
def c22l1 : AC :=
  .seq (.seq (.ops [⟨(some 30), none, .mov (.tmp 4)⟩,
          ⟨(some 31), none, .fldA 0 (.tmp 1)⟩,
          ⟨(some 32), none, .load none (.tmp 31)⟩,
          ⟨(some 33), none, .len false (.tmp 32)⟩,
          ⟨(some 34), none, .bin .lss (.tmp 30) (.tmp 33)⟩] [1, 4, 34])
      (.cond (.tmp 34)
        (.skip)
        (.exit 4)))
      (.seq (.block 5
        (.ops [⟨(some 37), none, .fldA 0 (.tmp 1)⟩,
            ⟨(some 38), none, .load none (.tmp 37)⟩,
            ⟨(some 39), none, .mov (.tmp 4)⟩,
            ⟨(some 40), none, .idxS 1 (.tmp 38) (.tmp 39)⟩,
            ⟨none, none, .store 1 (.tmp 40) (.const (.string ⟨#[63]⟩))⟩] [1, 4]))
      (.ops [⟨(some 35), none, .mov (.tmp 4)⟩,
          ⟨(some 36), none, .bin .add (.tmp 35) (.const (.int .i64 1))⟩,
          ⟨(some 4), none, .mov (.tmp 36)⟩] [1, 4]))
def c22l2 : AC :=
  .seq (.seq (.ops [⟨(some 13), none, .mov (.tmp 3)⟩,
                ⟨(some 14), none, .fldA 2 (.tmp 1)⟩,
                ⟨(some 15), none, .load none (.tmp 14)⟩,
                ⟨(some 16), none, .mov (.tmp 2)⟩,
                ⟨(some 17), none, .idxS 1 (.tmp 15) (.tmp 16)⟩,
                ⟨(some 18), none, .load none (.tmp 17)⟩,
                ⟨(some 19), none, .len false (.tmp 18)⟩,
                ⟨(some 20), none, .bin .lss (.tmp 13) (.tmp 19)⟩] [1, 2, 3, 20])
            (.cond (.tmp 20)
              (.skip)
              (.exit 2)))
            (.seq (.block 3
              (.ops [⟨(some 23), none, .fldA 2 (.tmp 1)⟩,
                  ⟨(some 24), none, .load none (.tmp 23)⟩,
                  ⟨(some 25), none, .mov (.tmp 2)⟩,
                  ⟨(some 26), none, .idxS 1 (.tmp 24) (.tmp 25)⟩,
                  ⟨(some 27), none, .load none (.tmp 26)⟩,
                  ⟨(some 28), none, .mov (.tmp 3)⟩,
                  ⟨(some 29), none, .idxS 1 (.tmp 27) (.tmp 28)⟩,
                  ⟨none, none, .store 1 (.tmp 29) (.const (.int .i64 (-7)))⟩] [1, 2, 3]))
            (.ops [⟨(some 21), none, .mov (.tmp 3)⟩,
                ⟨(some 22), none, .bin .add (.tmp 21) (.const (.int .i64 1))⟩,
                ⟨(some 3), none, .mov (.tmp 22)⟩] [1, 2, 3]))
def c22l3 : AC :=
  .seq (.seq (.ops [⟨(some 6), none, .mov (.tmp 2)⟩,
          ⟨(some 7), none, .fldA 2 (.tmp 1)⟩,
          ⟨(some 8), none, .load none (.tmp 7)⟩,
          ⟨(some 9), none, .len false (.tmp 8)⟩,
          ⟨(some 10), none, .bin .lss (.tmp 6) (.tmp 9)⟩] [1, 2, 10])
      (.cond (.tmp 10)
        (.skip)
        (.exit 0)))
      (.seq (.block 1
        (.seq (.ops [⟨(some 3), none, .mov (.const (.int .i64 0))⟩] [1, 2, 3])
        (.block 2
          (.loop [1, 2, 3]
            c22l2))))
      (.ops [⟨(some 11), none, .mov (.tmp 2)⟩,
          ⟨(some 12), none, .bin .add (.tmp 11) (.const (.int .i64 1))⟩,
          ⟨(some 2), none, .mov (.tmp 12)⟩] [1, 2]))
def c22 : AFun := ⟨
  .seq (.ops [⟨(some 1), none, .box 25 (.tmp 0)⟩] [1])
  (.seq (.seq (.ops [⟨(some 2), none, .mov (.const (.int .i64 0))⟩] [1, 2])
  (.block 0
    (.loop [1, 2]
      c22l3)))
  (.seq (.seq (.ops [⟨(some 4), none, .mov (.const (.int .i64 0))⟩] [1, 4])
  (.block 4
    (.loop [1, 4]
      c22l1)))
  (.seq (.ops [⟨(some 5), none, .mov (.const (.int .i64 0))⟩] [1, 5])
  (.block 6
    (.loop [1, 5]
      c22l0))))),
  52, [], false⟩
/- raddle/grade.index[string] -/
def c23l0 : AC :=
  .seq (.ops [⟨(some 10), none, .bin .lss (.tmp 9) (.tmp 8)⟩] [1, 7, 8, 9, 10])
      (.seq (.cond (.tmp 10)
        (.skip)
        (.exit 0))
      (.seq (.block 1
        (.seq (.ops [⟨(some 11), none, .mov (.tmp 9)⟩,
            ⟨(some 12), none, .idxS 1 (.tmp 7) (.tmp 9)⟩,
            ⟨(some 13), none, .load none (.tmp 12)⟩,
            ⟨(some 5), none, .mov (.tmp 11)⟩,
            ⟨(some 6), none, .mov (.tmp 13)⟩] [1, 5, 6, 7, 8, 9])
        (.seq (.ops [⟨(some 14), none, .mov (.tmp 1)⟩,
            ⟨(some 15), none, .mov (.tmp 6)⟩,
            ⟨(some 16), none, .bin .eql (.tmp 14) (.tmp 15)⟩] [1, 5, 7, 8, 9, 16])
        (.cond (.tmp 16)
          (.seq (.ops [⟨(some 17), none, .mov (.tmp 5)⟩,
              ⟨(some 4), none, .mov (.tmp 17)⟩] [4])
          (.ret))
          (.skip)))))
      (.ops [⟨(some 18), none, .bin .add (.tmp 9) (.const (.int .i64 1))⟩,
          ⟨(some 9), none, .mov (.tmp 18)⟩] [1, 7, 8, 9])))
def c23 : AFun := ⟨
  .seq (.ops [⟨(some 4), none, .mov (.const (.int .i64 0))⟩] [0, 1])
  (.seq (.seq (.ops [⟨(some 7), none, .mov (.tmp 0)⟩,
      ⟨(some 8), none, .len false (.tmp 7)⟩,
      ⟨(some 9), none, .mov (.const (.int .i64 0))⟩] [1, 7, 8, 9])
  (.block 0
    (.loop [1, 7, 8, 9]
      c23l0)))
  (.seq (.ops [⟨(some 4), none, .mov (.const (.int .i64 (-1)))⟩] [4])
  (.ret))),
  19, [(4, none)], true⟩
/- raddle/raddleref40.Index -/
def c24l0 : AC :=
  .seq (.seq (.ops [⟨(some 6), none, .mov (.tmp 5)⟩,
          ⟨(some 7), none, .mov (.tmp 0)⟩,
          ⟨(some 8), none, .len false (.tmp 7)⟩,
          ⟨(some 9), none, .bin .lss (.tmp 6) (.tmp 8)⟩] [0, 1, 5, 9])
      (.cond (.tmp 9)
        (.skip)
        (.exit 0)))
      (.seq (.block 1
        (.seq (.ops [⟨(some 12), none, .mov (.tmp 0)⟩,
            ⟨(some 13), none, .mov (.tmp 5)⟩,
            ⟨(some 14), none, .idxS 1 (.tmp 12) (.tmp 13)⟩,
            ⟨(some 15), none, .load none (.tmp 14)⟩,
            ⟨(some 16), none, .mov (.tmp 1)⟩,
            ⟨(some 17), none, .bin .eql (.tmp 15) (.tmp 16)⟩] [0, 1, 5, 17])
        (.cond (.tmp 17)
          (.seq (.ops [⟨(some 18), none, .mov (.tmp 5)⟩,
              ⟨(some 4), none, .mov (.tmp 18)⟩] [4])
          (.ret))
          (.skip))))
      (.ops [⟨(some 10), none, .mov (.tmp 5)⟩,
          ⟨(some 11), none, .bin .add (.tmp 10) (.const (.int .i64 1))⟩,
          ⟨(some 5), none, .mov (.tmp 11)⟩] [0, 1, 5]))
def c24 : AFun := ⟨
  .seq (.ops [⟨(some 4), none, .mov (.const (.int .i64 0))⟩] [0, 1])
  (.seq (.seq (.ops [⟨(some 5), none, .mov (.const (.int .i64 0))⟩] [0, 1, 5])
  (.block 0
    (.loop [0, 1, 5]
      c24l0)))
  (.seq (.ops [⟨(some 4), none, .mov (.const (.int .i64 (-1)))⟩] [4])
  (.ret))),
  19, [(4, none)], true⟩
/- raddle/grade.words -/
def c25l0 : AC :=
  .seq (.ops [⟨(some 12), none, .bin .lss (.tmp 11) (.tmp 10)⟩] [0, 2, 3, 9, 10, 11, 12])
      (.seq (.cond (.tmp 12)
        (.skip)
        (.exit 0))
      (.seq (.block 1
        (.seq (.ops [⟨(some 13), none, .mov (.tmp 11)⟩,
            ⟨(some 14), none, .idxS 1 (.tmp 9) (.tmp 11)⟩,
            ⟨(some 15), none, .load none (.tmp 14)⟩,
            ⟨(some 4), none, .mov (.tmp 13)⟩,
            ⟨(some 5), none, .mov (.tmp 15)⟩] [0, 2, 3, 4, 5, 9, 10, 11])
        (.seq (.ops [⟨(some 16), none, .mov (.tmp 2)⟩,
            ⟨(some 17), none, .mov (.tmp 16)⟩,
            ⟨(some 18), (some (17, true)), .mov (.tmp 5)⟩,
            ⟨(some 19), (some (17, true)), .callF 36 [(.tmp 18)]⟩,
            ⟨(some 20), none, .pick (.tmp 17) (.tmp 19) (.const (.bool false))⟩,
            ⟨(some 2), none, .mov (.tmp 20)⟩] [0, 2, 3, 4, 5, 9, 10, 11])
        (.ops [⟨(some 21), none, .mov (.tmp 3)⟩,
            ⟨(some 22), none, .mov (.tmp 21)⟩,
            ⟨(some 23), (some (22, false)), .mov (.tmp 0)⟩,
            ⟨(some 24), (some (22, false)), .mov (.tmp 5)⟩,
            ⟨(some 25), (some (22, false)), .callF 23 [(.tmp 23), (.tmp 24)]⟩,
            ⟨(some 26), (some (22, false)), .mov (.tmp 4)⟩,
            ⟨(some 27), (some (22, false)), .bin .lss (.tmp 25) (.tmp 26)⟩,
            ⟨(some 28), none, .pick (.tmp 22) (.const (.bool true)) (.tmp 27)⟩,
            ⟨(some 3), none, .mov (.tmp 28)⟩] [0, 2, 3, 9, 10, 11]))))
      (.ops [⟨(some 29), none, .bin .add (.tmp 11) (.const (.int .i64 1))⟩,
          ⟨(some 11), none, .mov (.tmp 29)⟩] [0, 2, 3, 9, 10, 11])))
def c25 : AFun := ⟨
  .seq (.ops [⟨(some 2), none, .mov (.const (.bool false))⟩,
      ⟨(some 3), none, .mov (.const (.bool false))⟩] [0, 3])
  (.seq (.ops [⟨(some 6), none, .mov (.tmp 0)⟩,
      ⟨(some 7), none, .len false (.tmp 6)⟩,
      ⟨(some 8), none, .bin .gtr (.tmp 7) (.const (.int .i64 0))⟩,
      ⟨(some 2), none, .mov (.tmp 8)⟩] [0, 2, 3])
  (.seq (.seq (.ops [⟨(some 9), none, .mov (.tmp 0)⟩,
      ⟨(some 10), none, .len false (.tmp 9)⟩,
      ⟨(some 11), none, .mov (.const (.int .i64 0))⟩] [0, 2, 3, 9, 10, 11])
  (.block 0
    (.loop [0, 2, 3, 9, 10, 11]
      c25l0)))
  (.seq (.ops [⟨(some 30), none, .mov (.tmp 2)⟩,
      ⟨(some 31), none, .mov (.tmp 3)⟩,
      ⟨(some 2), none, .mov (.tmp 30)⟩,
      ⟨(some 3), none, .mov (.tmp 31)⟩] [2, 3])
  (.ret)))),
  32, [(2, none), (3, none)], true⟩
/- raddle/raddleref40.words -/
def c26l0 : AC :=
  .seq (.seq (.ops [⟨(some 4), none, .mov (.tmp 3)⟩,
          ⟨(some 5), none, .mov (.tmp 0)⟩,
          ⟨(some 6), none, .len false (.tmp 5)⟩,
          ⟨(some 7), none, .bin .lss (.tmp 4) (.tmp 6)⟩] [0, 3, 7])
      (.cond (.tmp 7)
        (.skip)
        (.exit 0)))
      (.seq (.block 1
        (.seq (.ops [⟨(some 10), none, .mov (.tmp 0)⟩,
            ⟨(some 11), none, .mov (.tmp 3)⟩,
            ⟨(some 12), none, .idxS 1 (.tmp 10) (.tmp 11)⟩,
            ⟨(some 13), none, .load none (.tmp 12)⟩,
            ⟨(some 14), none, .callF 37 [(.tmp 13)]⟩,
            ⟨(some 15), none, .un .not (.tmp 14)⟩] [0, 3, 15])
        (.cond (.tmp 15)
          (.seq (.ops [⟨(some 2), none, .mov (.const (.bool false))⟩] [2])
          (.ret))
          (.skip))))
      (.ops [⟨(some 8), none, .mov (.tmp 3)⟩,
          ⟨(some 9), none, .bin .add (.tmp 8) (.const (.int .i64 1))⟩,
          ⟨(some 3), none, .mov (.tmp 9)⟩] [0, 3]))
def c26 : AFun := ⟨
  .seq (.ops [⟨(some 2), none, .mov (.const (.bool false))⟩] [0])
  (.seq (.seq (.ops [⟨(some 3), none, .mov (.const (.int .i64 0))⟩] [0, 3])
  (.block 0
    (.loop [0, 3]
      c26l0)))
  (.seq (.ops [⟨(some 16), none, .mov (.tmp 0)⟩,
      ⟨(some 17), none, .len false (.tmp 16)⟩,
      ⟨(some 18), none, .bin .gtr (.tmp 17) (.const (.int .i64 0))⟩,
      ⟨(some 2), none, .mov (.tmp 18)⟩] [2])
  (.ret))),
  19, [(2, none)], true⟩
/- raddle/raddleref40.row -/
def c27l0 : AC :=
  .seq (.seq (.ops [⟨(some 6), none, .mov (.tmp 5)⟩,
          ⟨(some 7), none, .mov (.tmp 0)⟩,
          ⟨(some 8), none, .len false (.tmp 7)⟩,
          ⟨(some 9), none, .bin .lss (.tmp 6) (.tmp 8)⟩] [0, 1, 5, 9])
      (.cond (.tmp 9)
        (.skip)
        (.exit 0)))
      (.seq (.block 1
        (.seq (.draw [⟨(some 12), none, .mov (.tmp 0)⟩,
            ⟨(some 13), none, .mov (.tmp 5)⟩,
            ⟨(some 14), none, .idxS 1 (.tmp 12) (.tmp 13)⟩,
            ⟨(some 15), none, .load none (.tmp 14)⟩,
            ⟨(some 16), none, .bin .lss (.tmp 15) (.const (.int .i64 0))⟩,
            ⟨(some 17), none, .mov (.tmp 16)⟩,
            ⟨(some 18), (some (17, false)), .mov (.tmp 0)⟩,
            ⟨(some 19), (some (17, false)), .mov (.tmp 5)⟩,
            ⟨(some 20), (some (17, false)), .idxS 1 (.tmp 18) (.tmp 19)⟩,
            ⟨(some 21), (some (17, false)), .load none (.tmp 20)⟩,
            ⟨(some 22), (some (17, false)), .bin .gtr (.tmp 21) (.const (.int .i64 1000000))⟩,
            ⟨(some 23), none, .pick (.tmp 17) (.const (.bool true)) (.tmp 22)⟩,
            ⟨(some 24), none, .mov (.tmp 23)⟩,
            ⟨(some 25), (some (24, false)), .mov (.tmp 5)⟩,
            ⟨(some 26), (some (24, false)), .bin .gtr (.tmp 25) (.const (.int .i64 0))⟩,
            ⟨(some 27), (some (24, false)), .mov (.tmp 26)⟩,
            ⟨(some 28), (some (27, true)), .mov (.tmp 0)⟩,
            ⟨(some 29), (some (27, true)), .mov (.tmp 5)⟩,
            ⟨(some 30), (some (27, true)), .idxS 1 (.tmp 28) (.tmp 29)⟩,
            ⟨(some 31), (some (27, true)), .load none (.tmp 30)⟩,
            ⟨(some 32), (some (27, true)), .mov (.tmp 0)⟩,
            ⟨(some 33), (some (27, true)), .mov (.tmp 5)⟩,
            ⟨(some 34), (some (27, true)), .bin .sub (.tmp 33) (.const (.int .i64 1))⟩,
            ⟨(some 35), (some (27, true)), .idxS 1 (.tmp 32) (.tmp 34)⟩,
            ⟨(some 36), (some (27, true)), .load none (.tmp 35)⟩] [⟨(some 37), (some (27, true)), .bin .lss (.tmp 31) (.tmp 36)⟩,
            ⟨(some 38), (some (24, false)), .pick (.tmp 27) (.tmp 37) (.const (.bool false))⟩,
            ⟨(some 39), none, .pick (.tmp 24) (.const (.bool true)) (.tmp 38)⟩] [[], [], [], [], [], [], [], [], [], [], [], [], [], [], [], [], [], [], [], [], [], [], [], [], []] [0, 1, 5, 39])
        (.cond (.tmp 39)
          (.seq (.ops [⟨(some 4), none, .mov (.const (.bool false))⟩] [4])
          (.ret))
          (.skip))))
      (.ops [⟨(some 10), none, .mov (.tmp 5)⟩,
          ⟨(some 11), none, .bin .add (.tmp 10) (.const (.int .i64 1))⟩,
          ⟨(some 5), none, .mov (.tmp 11)⟩] [0, 1, 5]))
def c27 : AFun := ⟨
  .seq (.ops [⟨(some 4), none, .mov (.const (.bool false))⟩] [0, 1])
  (.seq (.seq (.ops [⟨(some 5), none, .mov (.const (.int .i64 0))⟩] [0, 1, 5])
  (.block 0
    (.loop [0, 1, 5]
      c27l0)))
  (.seq (.ops [⟨(some 40), none, .mov (.tmp 0)⟩,
      ⟨(some 41), none, .len false (.tmp 40)⟩,
      ⟨(some 42), none, .mov (.tmp 1)⟩,
      ⟨(some 43), none, .bin .eql (.tmp 41) (.tmp 42)⟩,
      ⟨(some 4), none, .mov (.tmp 43)⟩] [4])
  (.ret))),
  44, [(4, none)], true⟩
/- raddle/raddleref40.twice -/
def c28l0 : AC :=
  .seq (.seq (.ops [⟨(some 4), none, .mov (.tmp 3)⟩,
          ⟨(some 5), none, .mov (.tmp 0)⟩,
          ⟨(some 6), none, .len false (.tmp 5)⟩,
          ⟨(some 7), none, .bin .lss (.tmp 4) (.tmp 6)⟩] [0, 3, 7])
      (.cond (.tmp 7)
        (.skip)
        (.exit 0)))
      (.seq (.block 1
        (.seq (.ops [⟨(some 10), none, .mov (.tmp 0)⟩,
            ⟨(some 11), none, .mov (.tmp 0)⟩,
            ⟨(some 12), none, .mov (.tmp 3)⟩,
            ⟨(some 13), none, .idxS 1 (.tmp 11) (.tmp 12)⟩,
            ⟨(some 14), none, .load none (.tmp 13)⟩,
            ⟨(some 15), none, .callF 24 [(.tmp 10), (.tmp 14)]⟩,
            ⟨(some 16), none, .mov (.tmp 3)⟩,
            ⟨(some 17), none, .bin .lss (.tmp 15) (.tmp 16)⟩] [0, 3, 17])
        (.cond (.tmp 17)
          (.seq (.ops [⟨(some 2), none, .mov (.const (.bool true))⟩] [2])
          (.ret))
          (.skip))))
      (.ops [⟨(some 8), none, .mov (.tmp 3)⟩,
          ⟨(some 9), none, .bin .add (.tmp 8) (.const (.int .i64 1))⟩,
          ⟨(some 3), none, .mov (.tmp 9)⟩] [0, 3]))
def c28 : AFun := ⟨
  .seq (.ops [⟨(some 2), none, .mov (.const (.bool false))⟩] [0])
  (.seq (.seq (.ops [⟨(some 3), none, .mov (.const (.int .i64 0))⟩] [0, 3])
  (.block 0
    (.loop [0, 3]
      c28l0)))
  (.seq (.ops [⟨(some 2), none, .mov (.const (.bool false))⟩] [2])
  (.ret))),
  18, [(2, none)], true⟩
/- raddle/raddleref35.Nearest -/
def c29 : AFun := ⟨
  .seq (.ops [⟨(some 4), none, .mov (.const (.int .i64 0))⟩] [0, 1])
  (.seq (.ops [⟨(some 6), none, .mov (.tmp 0)⟩,
      ⟨(some 7), none, .mov (.tmp 1)⟩,
      ⟨(some 8), none, .bin .quo (.tmp 6) (.tmp 7)⟩,
      ⟨(some 5), none, .mov (.tmp 8)⟩] [0, 1, 5])
  (.seq (.seq (.ops [⟨(some 9), none, .mov (.tmp 0)⟩,
      ⟨(some 10), none, .mov (.tmp 5)⟩,
      ⟨(some 11), none, .mov (.tmp 1)⟩,
      ⟨(some 12), none, .bin .mul (.tmp 10) (.tmp 11)⟩,
      ⟨(some 13), none, .bin .sub (.tmp 9) (.tmp 12)⟩,
      ⟨(some 14), none, .bin .mul (.const (.int .i64 2)) (.tmp 13)⟩,
      ⟨(some 15), none, .mov (.tmp 1)⟩,
      ⟨(some 16), none, .bin .geq (.tmp 14) (.tmp 15)⟩] [5, 16])
  (.cond (.tmp 16)
    (.ops [⟨(some 17), none, .mov (.tmp 5)⟩,
        ⟨(some 18), none, .bin .add (.tmp 17) (.const (.int .i64 1))⟩,
        ⟨(some 5), none, .mov (.tmp 18)⟩] [5])
    (.skip)))
  (.seq (.ops [⟨(some 19), none, .mov (.tmp 5)⟩,
      ⟨(some 4), none, .mov (.tmp 19)⟩] [4])
  (.ret)))),
  20, [(4, none)], true⟩
/- raddle/grade.fresh -/
def c30 : AFun := ⟨
  .seq (.ops [⟨(some 2), none, .box 25 (.tmp 0)⟩,
      ⟨(some 4), none, .mov (.const (.int .i64 0))⟩] [1, 2])
  (.seq (.block 0
    (.seq (.ops [⟨(some 6), none, .fldA 0 (.tmp 2)⟩,
        ⟨(some 7), none, .load none (.tmp 6)⟩,
        ⟨(some 8), none, .len false (.tmp 7)⟩,
        ⟨(some 9), none, .bin .geq (.tmp 8) (.const (.int .i64 20))⟩,
        ⟨(some 5), none, .mov (.tmp 9)⟩] [1, 2, 5])
    (.cond (.tmp 5)
      (.seq (.ops [⟨(some 4), none, .mov (.const (.int .i64 4))⟩] [4])
      (.ret))
      (.seq (.ops [⟨(some 11), none, .mov (.tmp 1)⟩,
          ⟨(some 12), none, .callF 36 [(.tmp 11)]⟩,
          ⟨(some 13), none, .un .not (.tmp 12)⟩,
          ⟨(some 10), none, .mov (.tmp 13)⟩] [1, 2, 10])
      (.cond (.tmp 10)
        (.seq (.ops [⟨(some 4), none, .mov (.const (.int .i64 8))⟩] [4])
        (.ret))
        (.seq (.ops [⟨(some 15), none, .fldA 0 (.tmp 2)⟩,
            ⟨(some 16), none, .load none (.tmp 15)⟩,
            ⟨(some 17), none, .mov (.tmp 1)⟩,
            ⟨(some 18), none, .callF 23 [(.tmp 16), (.tmp 17)]⟩,
            ⟨(some 19), none, .bin .geq (.tmp 18) (.const (.int .i64 0))⟩,
            ⟨(some 14), none, .mov (.tmp 19)⟩] [14])
        (.cond (.tmp 14)
          (.seq (.ops [⟨(some 4), none, .mov (.const (.int .i64 14))⟩] [4])
          (.ret))
          (.skip))))))))
  (.seq (.ops [⟨(some 4), none, .mov (.const (.int .i64 0))⟩] [4])
  (.ret))),
  20, [(4, none)], true⟩
/- raddle/grade.put -/
def c31 : AFun := ⟨
  .seq (.ops [⟨(some 4), none, .box 25 (.tmp 0)⟩,
      ⟨(some 5), none, .box 3 (.tmp 1)⟩,
      ⟨(some 7), none, .box 39 (.tmp 3)⟩,
      ⟨(some 8), none, .alloc 25 [(3, (.slice none 0 0))]⟩] [2, 4, 5, 7, 8])
  (.seq (.ops [⟨(some 9), none, .alloc 3 [(1, (.int .i64 0))]⟩,
      ⟨none, none, .store 1 (.tmp 9) (.const (.int .i64 (-1)))⟩] [2, 4, 5, 7, 8, 9])
  (.seq (.ops [⟨(some 11), none, .load (some 3) (.tmp 4)⟩,
      ⟨(some 12), none, .mkFn 38 [] [(.tmp 9), (.tmp 5), (.tmp 7)]⟩,
      ⟨(some 13), none, .callF 34 [(.tmp 11), (.tmp 12)]⟩,
      ⟨(some 10), none, .alloc 25 [(3, (.slice none 0 0))]⟩,
      ⟨none, none, .store 3 (.tmp 10) (.tmp 13)⟩] [2, 4, 5, 8, 10])
  (.seq (.ops [⟨(some 14), none, .fldA 0 (.tmp 4)⟩,
      ⟨(some 15), none, .load none (.tmp 14)⟩,
      ⟨(some 16), none, .load none (.tmp 5)⟩,
      ⟨(some 17), none, .mov (.tmp 2)⟩,
      ⟨(some 18), none, .callF 40 [(.tmp 15), (.tmp 16), (.tmp 17)]⟩,
      ⟨(some 19), none, .fldA 0 (.tmp 10)⟩,
      ⟨none, none, .store 1 (.tmp 19) (.tmp 18)⟩] [8, 10])
  (.seq (.ops [⟨(some 20), none, .load (some 3) (.tmp 10)⟩,
      ⟨none, none, .store 3 (.tmp 8) (.tmp 20)⟩] [8])
  (.ret))))),
  21, [(8, (some (some 3)))], true⟩
/- raddle/raddleref40.fresh -/
def c32 : AFun := ⟨
  .seq (.ops [⟨(some 2), none, .box 25 (.tmp 0)⟩,
      ⟨(some 4), none, .mov (.const (.int .i64 0))⟩] [1, 2])
  (.seq (.seq (.ops [⟨(some 5), none, .fldA 0 (.tmp 2)⟩,
      ⟨(some 6), none, .load none (.tmp 5)⟩,
      ⟨(some 7), none, .len false (.tmp 6)⟩,
      ⟨(some 8), none, .bin .geq (.tmp 7) (.const (.int .i64 20))⟩] [1, 2, 8])
  (.cond (.tmp 8)
    (.seq (.ops [⟨(some 4), none, .mov (.const (.int .i64 4))⟩] [4])
    (.ret))
    (.skip)))
  (.seq (.seq (.ops [⟨(some 9), none, .mov (.tmp 1)⟩,
      ⟨(some 10), none, .callF 37 [(.tmp 9)]⟩,
      ⟨(some 11), none, .un .not (.tmp 10)⟩] [1, 2, 11])
  (.cond (.tmp 11)
    (.seq (.ops [⟨(some 4), none, .mov (.const (.int .i64 8))⟩] [4])
    (.ret))
    (.skip)))
  (.seq (.seq (.ops [⟨(some 12), none, .fldA 0 (.tmp 2)⟩,
      ⟨(some 13), none, .load none (.tmp 12)⟩,
      ⟨(some 14), none, .mov (.tmp 1)⟩,
      ⟨(some 15), none, .callF 24 [(.tmp 13), (.tmp 14)]⟩,
      ⟨(some 16), none, .bin .geq (.tmp 15) (.const (.int .i64 0))⟩] [16])
  (.cond (.tmp 16)
    (.seq (.ops [⟨(some 4), none, .mov (.const (.int .i64 14))⟩] [4])
    (.ret))
    (.skip)))
  (.seq (.ops [⟨(some 4), none, .mov (.const (.int .i64 0))⟩] [4])
  (.ret))))),
  17, [(4, none)], true⟩
/- raddle/raddleref40.put -/
def c33l0 : AC :=
  .seq (.seq (.ops [⟨(some 31), none, .mov (.tmp 10)⟩,
          ⟨(some 32), none, .fldA 2 (.tmp 4)⟩,
          ⟨(some 33), none, .load none (.tmp 32)⟩,
          ⟨(some 34), none, .len false (.tmp 33)⟩,
          ⟨(some 35), none, .bin .lss (.tmp 31) (.tmp 34)⟩] [1, 3, 4, 8, 9, 10, 35])
      (.cond (.tmp 35)
        (.skip)
        (.exit 0)))
      (.seq (.block 1
        (.draw [⟨(some 38), none, .fldA 2 (.tmp 9)⟩,
            ⟨(some 39), none, .load none (.tmp 38)⟩,
            ⟨(some 40), none, .mkRow 3 1 0 [(.int .i64 0)] []⟩,
            ⟨(some 41), none, .fldA 2 (.tmp 4)⟩,
            ⟨(some 42), none, .load none (.tmp 41)⟩,
            ⟨(some 43), none, .mov (.tmp 10)⟩,
            ⟨(some 44), none, .idxS 1 (.tmp 42) (.tmp 43)⟩,
            ⟨(some 45), none, .load none (.tmp 44)⟩,
            ⟨(some 46), none, .mov (.tmp 1)⟩,
            ⟨(some 47), none, .slc 1 (.tmp 45) none (some (.tmp 46)) none⟩,
            ⟨(some 48), none, .app 3 1 8 (.tmp 40) (.tmp 47)⟩,
            ⟨(some 49), none, .mov (.tmp 3)⟩,
            ⟨(some 50), none, .mov (.tmp 10)⟩,
            ⟨(some 51), none, .idxS 1 (.tmp 49) (.tmp 50)⟩,
            ⟨(some 52), none, .load none (.tmp 51)⟩,
            ⟨(some 53), none, .mkRow 3 1 1 [(.int .i64 0)] [(0, 1, (.tmp 52))]⟩,
            ⟨(some 54), none, .app 3 1 8 (.tmp 48) (.tmp 53)⟩,
            ⟨(some 55), none, .fldA 2 (.tmp 4)⟩,
            ⟨(some 56), none, .load none (.tmp 55)⟩,
            ⟨(some 57), none, .mov (.tmp 10)⟩,
            ⟨(some 58), none, .idxS 1 (.tmp 56) (.tmp 57)⟩,
            ⟨(some 59), none, .load none (.tmp 58)⟩,
            ⟨(some 60), none, .mov (.tmp 1)⟩,
            ⟨(some 61), none, .slc 1 (.tmp 59) (some (.tmp 60)) none none⟩,
            ⟨(some 62), none, .app 3 1 8 (.tmp 54) (.tmp 61)⟩,
            ⟨(some 63), none, .mkRow 39 1 1 [(.slice none 0 0)] [(0, 1, (.tmp 62))]⟩] [⟨(some 64), none, .app 39 1 24 (.tmp 39) (.tmp 63)⟩,
            ⟨(some 65), none, .fldA 2 (.tmp 9)⟩,
            ⟨none, none, .store 1 (.tmp 65) (.tmp 64)⟩] [[], [], [], [false, false, false], [true, false, false, false], [false, false, false, false, false], [true, true, true, false, false, false], [true, true, true, true, false, false, false], [false, false, false, false, false, false, false, false], [true, true, true, true, true, true, false, false, false], [], [false, false, false, false, false, false, false, false, false, false, false], [false, false, false, false, false, false, false, false, false, false, false, false], [true, true, false, false, false, false, false, false, false, false, false, false, false], [true, true, true, false, false, false, false, false, false, false, false, false, false, false], [true, true, true, true, false, false, false, false, false, false, false, false, false, false, false], [], [false, false, false, false, false, false, false, false, false, false, false, false, false, false, false, false, false], [true, false, false, false, false, false, false, false, false, false, false, false, false, false, false, false, false, false], [false, false, false, false, false, false, false, false, false, false, false, false, false, false, false, false, false, false, false], [true, true, true, false, false, false, false, false, false, false, false, false, false, false, false, false, false, false, false, false], [true, true, true, true, false, false, false, false, false, false, false, false, false, false, false, false, false, false, false, false, false], [false, false, false, false, false, false, false, false, false, false, false, false, false, false, false, false, false, false, false, false, false, false], [true, true, true, true, true, true, false, false, false, false, false, false, false, false, false, false, false, false, false, false, false, false, false], [], []] [1, 3, 4, 8, 9, 10]))
      (.ops [⟨(some 36), none, .mov (.tmp 10)⟩,
          ⟨(some 37), none, .bin .add (.tmp 36) (.const (.int .i64 1))⟩,
          ⟨(some 10), none, .mov (.tmp 37)⟩] [1, 3, 4, 8, 9, 10]))
def c33 : AFun := ⟨
  .seq (.ops [⟨(some 4), none, .box 25 (.tmp 0)⟩,
      ⟨(some 8), none, .alloc 25 [(3, (.slice none 0 0))]⟩] [1, 2, 3, 4, 8])
  (.seq (.ops [⟨(some 9), none, .alloc 25 [(3, (.slice none 0 0))]⟩] [1, 2, 3, 4, 8, 9])
  (.seq (.draw [⟨(some 11), none, .mkRow 9 1 0 [(.string ⟨#[]⟩)] []⟩,
      ⟨(some 12), none, .fldA 0 (.tmp 4)⟩,
      ⟨(some 13), none, .load none (.tmp 12)⟩,
      ⟨(some 14), none, .mov (.tmp 1)⟩,
      ⟨(some 15), none, .slc 1 (.tmp 13) none (some (.tmp 14)) none⟩,
      ⟨(some 16), none, .app 9 1 16 (.tmp 11) (.tmp 15)⟩,
      ⟨(some 17), none, .mov (.tmp 2)⟩,
      ⟨(some 18), none, .mkRow 9 1 1 [(.string ⟨#[]⟩)] [(0, 1, (.tmp 17))]⟩,
      ⟨(some 19), none, .app 9 1 16 (.tmp 16) (.tmp 18)⟩,
      ⟨(some 20), none, .fldA 0 (.tmp 4)⟩,
      ⟨(some 21), none, .load none (.tmp 20)⟩,
      ⟨(some 22), none, .mov (.tmp 1)⟩,
      ⟨(some 23), none, .slc 1 (.tmp 21) (some (.tmp 22)) none none⟩] [⟨(some 24), none, .app 9 1 16 (.tmp 19) (.tmp 23)⟩,
      ⟨(some 25), none, .fldA 0 (.tmp 9)⟩,
      ⟨none, none, .store 1 (.tmp 25) (.tmp 24)⟩] [[], [false], [true, false], [false, false, false], [true, true, true, false], [], [false, false, false, false, false, false], [true, false, false, false, false, false, false], [], [false, false, false, false, false, false, false, false, false], [true, false, false, false, false, false, false, false, false, false], [false, false, false, false, false, false, false, false, false, false, false], [true, true, true, false, false, false, false, false, false, false, false, false]] [1, 3, 4, 8, 9])
  (.seq (.ops [⟨(some 26), none, .mkRow 9 1 0 [(.string ⟨#[]⟩)] []⟩,
      ⟨(some 27), none, .fldA 1 (.tmp 4)⟩,
      ⟨(some 28), none, .load none (.tmp 27)⟩,
      ⟨(some 29), none, .app 9 1 16 (.tmp 26) (.tmp 28)⟩,
      ⟨(some 30), none, .fldA 1 (.tmp 9)⟩,
      ⟨none, none, .store 1 (.tmp 30) (.tmp 29)⟩] [1, 3, 4, 8, 9])
  (.seq (.seq (.ops [⟨(some 10), none, .mov (.const (.int .i64 0))⟩] [1, 3, 4, 8, 9, 10])
  (.block 0
    (.loop [1, 3, 4, 8, 9, 10]
      c33l0)))
  (.seq (.ops [⟨(some 66), none, .load (some 3) (.tmp 9)⟩,
      ⟨none, none, .store 3 (.tmp 8) (.tmp 66)⟩] [8])
  (.ret)))))),
  67, [(8, (some (some 3)))], true⟩
/- raddle/grade.each -/
def c34l0 : AC :=
  .seq (.ops [⟨(some 25), none, .bin .lss (.tmp 24) (.tmp 23)⟩] [1, 4, 5, 22, 23, 24, 25])
      (.seq (.cond (.tmp 25)
        (.skip)
        (.exit 0))
      (.seq (.block 1
        (.seq (.ops [⟨(some 26), none, .mov (.tmp 24)⟩,
            ⟨(some 27), none, .idxS 1 (.tmp 22) (.tmp 24)⟩,
            ⟨(some 28), none, .load none (.tmp 27)⟩,
            ⟨(some 6), none, .mov (.tmp 26)⟩,
            ⟨(some 7), none, .mov (.tmp 28)⟩] [1, 4, 5, 6, 7, 22, 23, 24])
        (.draw [⟨(some 29), none, .fldA 2 (.tmp 5)⟩,
            ⟨(some 30), none, .load none (.tmp 29)⟩,
            ⟨(some 31), none, .mov (.tmp 6)⟩,
            ⟨(some 32), none, .mov (.tmp 1)⟩,
            ⟨(some 33), none, .mov (.tmp 7)⟩,
            ⟨(some 34), none, .callV (.tmp 32) [(.tmp 33)]⟩] [⟨(some 35), none, .idxS 1 (.tmp 30) (.tmp 31)⟩,
            ⟨none, none, .store 1 (.tmp 35) (.tmp 34)⟩] [[], [], [], [], [], []] [1, 4, 5, 22, 23, 24])))
      (.ops [⟨(some 36), none, .bin .add (.tmp 24) (.const (.int .i64 1))⟩,
          ⟨(some 24), none, .mov (.tmp 36)⟩] [1, 4, 5, 22, 23, 24])))
def c34 : AFun := ⟨
  .seq (.ops [⟨(some 2), none, .box 25 (.tmp 0)⟩,
      ⟨(some 4), none, .alloc 25 [(3, (.slice none 0 0))]⟩] [1, 2, 4])
  (.seq (.draw [⟨(some 8), none, .mkRow 9 1 0 [(.string ⟨#[]⟩)] []⟩,
      ⟨(some 9), none, .fldA 0 (.tmp 2)⟩,
      ⟨(some 10), none, .load none (.tmp 9)⟩,
      ⟨(some 11), none, .app 9 1 16 (.tmp 8) (.tmp 10)⟩,
      ⟨(some 12), none, .mkRow 9 1 0 [(.string ⟨#[]⟩)] []⟩,
      ⟨(some 13), none, .fldA 1 (.tmp 2)⟩,
      ⟨(some 14), none, .load none (.tmp 13)⟩,
      ⟨(some 15), none, .app 9 1 16 (.tmp 12) (.tmp 14)⟩,
      ⟨(some 16), none, .fldA 2 (.tmp 2)⟩,
      ⟨(some 17), none, .load none (.tmp 16)⟩,
      ⟨(some 18), none, .len false (.tmp 17)⟩,
      ⟨(some 19), none, .mkSlice 39 1 24 [(.slice none 0 0)] (.tmp 18) (.tmp 18)⟩,
      ⟨(some 20), none, .build [(.slice none 0 0), (.slice none 0 0), (.slice none 0 0)] [(0, 1, (.tmp 11)), (1, 1, (.tmp 15)), (2, 1, (.tmp 19))]⟩,
      ⟨(some 5), none, .alloc 25 [(3, (.slice none 0 0))]⟩] [⟨none, none, .store 3 (.tmp 5) (.tmp 20)⟩] [[], [false], [true, false], [], [false, false, false, false], [false, false, false, false, false], [true, false, false, false, false, false], [], [false, false, false, false, false, false, false, false], [true, false, false, false, false, false, false, false, false], [true, true, false, false, false, false, false, false, false, false], [true, true, true, false, false, false, false, false, false, false, false], [], [false, false, false, false, false, false, false, false, false, false, false, false, false]] [1, 2, 4, 5])
  (.seq (.seq (.ops [⟨(some 21), none, .fldA 2 (.tmp 2)⟩,
      ⟨(some 22), none, .load none (.tmp 21)⟩,
      ⟨(some 23), none, .len false (.tmp 22)⟩,
      ⟨(some 24), none, .mov (.const (.int .i64 0))⟩] [1, 4, 5, 22, 23, 24])
  (.block 0
    (.loop [1, 4, 5, 22, 23, 24]
      c34l0)))
  (.seq (.ops [⟨(some 37), none, .load (some 3) (.tmp 5)⟩,
      ⟨none, none, .store 3 (.tmp 4) (.tmp 37)⟩] [4])
  (.ret)))),
  38, [(4, (some (some 3)))], false⟩
/- raddle/grade.Snap$1 -/
def c35l0 : AC :=
  .seq (.ops [⟨(some 14), none, .bin .lss (.tmp 13) (.tmp 12)⟩] [1, 2, 5, 11, 12, 13, 14])
      (.seq (.cond (.tmp 14)
        (.skip)
        (.exit 0))
      (.seq (.block 1
        (.seq (.ops [⟨(some 15), none, .mov (.tmp 13)⟩,
            ⟨(some 16), none, .idxS 1 (.tmp 11) (.tmp 13)⟩,
            ⟨(some 17), none, .load none (.tmp 16)⟩,
            ⟨(some 6), none, .mov (.tmp 15)⟩,
            ⟨(some 7), none, .mov (.tmp 17)⟩] [1, 2, 5, 6, 7, 11, 12, 13])
        (.seq (.draw [⟨(some 18), none, .mov (.tmp 5)⟩,
            ⟨(some 19), none, .mov (.tmp 6)⟩,
            ⟨(some 20), none, .load none (.tmp 1)⟩,
            ⟨(some 21), none, .mov (.tmp 7)⟩,
            ⟨(some 22), none, .bin .mul (.const (.int .i64 2)) (.tmp 21)⟩,
            ⟨(some 23), none, .load none (.tmp 1)⟩,
            ⟨(some 24), none, .bin .add (.tmp 22) (.tmp 23)⟩,
            ⟨(some 25), none, .load none (.tmp 1)⟩,
            ⟨(some 26), none, .bin .mul (.const (.int .i64 2)) (.tmp 25)⟩,
            ⟨(some 27), none, .bin .quo (.tmp 24) (.tmp 26)⟩,
            ⟨(some 28), none, .bin .mul (.tmp 20) (.tmp 27)⟩] [⟨(some 29), none, .idxS 1 (.tmp 18) (.tmp 19)⟩,
            ⟨none, none, .store 1 (.tmp 29) (.tmp 28)⟩] [[], [], [], [], [], [], [], [], [], [], []] [1, 2, 5, 6, 11, 12, 13])
        (.ops [⟨(some 30), none, .load none (.tmp 2)⟩,
            ⟨(some 31), none, .mov (.tmp 30)⟩,
            ⟨(some 32), (some (31, true)), .mov (.tmp 5)⟩,
            ⟨(some 33), (some (31, true)), .mov (.tmp 6)⟩,
            ⟨(some 34), (some (31, true)), .idxS 1 (.tmp 32) (.tmp 33)⟩,
            ⟨(some 35), (some (31, true)), .load none (.tmp 34)⟩,
            ⟨(some 36), (some (31, true)), .bin .leq (.tmp 35) (.const (.int .i64 1000000))⟩,
            ⟨(some 37), none, .pick (.tmp 31) (.tmp 36) (.const (.bool false))⟩,
            ⟨none, none, .store 1 (.tmp 2) (.tmp 37)⟩] [1, 2, 5, 11, 12, 13]))))
      (.ops [⟨(some 38), none, .bin .add (.tmp 13) (.const (.int .i64 1))⟩,
          ⟨(some 13), none, .mov (.tmp 38)⟩] [1, 2, 5, 11, 12, 13])))
def c35 : AFun := ⟨
  .seq (.ops [⟨(some 4), none, .mov (.const (.slice none 0 0))⟩] [0, 1, 2])
  (.seq (.ops [⟨(some 8), none, .mov (.tmp 0)⟩,
      ⟨(some 9), none, .len false (.tmp 8)⟩,
      ⟨(some 10), none, .mkSlice 3 1 8 [(.int .i64 0)] (.tmp 9) (.tmp 9)⟩,
      ⟨(some 5), none, .mov (.tmp 10)⟩] [0, 1, 2, 5])
  (.seq (.seq (.ops [⟨(some 11), none, .mov (.tmp 0)⟩,
      ⟨(some 12), none, .len false (.tmp 11)⟩,
      ⟨(some 13), none, .mov (.const (.int .i64 0))⟩] [1, 2, 5, 11, 12, 13])
  (.block 0
    (.loop [1, 2, 5, 11, 12, 13]
      c35l0)))
  (.seq (.ops [⟨(some 39), none, .mov (.tmp 5)⟩,
      ⟨(some 4), none, .mov (.tmp 39)⟩] [4])
  (.ret)))),
  40, [(4, none)], false⟩
/- raddle/grade.word -/
def c36l0 : AC :=
  .seq (.ops [⟨(some 17), none, .bin .lss (.tmp 16) (.tmp 15)⟩] [14, 15, 16, 17])
      (.seq (.cond (.tmp 17)
        (.skip)
        (.exit 0))
      (.seq (.block 1
        (.seq (.ops [⟨(some 18), none, .idxS 1 (.tmp 14) (.tmp 16)⟩,
            ⟨(some 19), none, .load none (.tmp 18)⟩,
            ⟨(some 4), none, .mov (.tmp 19)⟩] [4, 14, 15, 16])
        (.seq (.ops [⟨(some 20), none, .mov (.tmp 4)⟩,
            ⟨(some 21), none, .bin .neq (.tmp 20) (.const (.int .u8 45))⟩,
            ⟨(some 22), none, .mov (.tmp 21)⟩,
            ⟨(some 23), (some (22, true)), .mov (.tmp 4)⟩,
            ⟨(some 24), (some (22, true)), .bin .lss (.tmp 23) (.const (.int .u8 97))⟩,
            ⟨(some 25), (some (22, true)), .mov (.tmp 24)⟩,
            ⟨(some 26), (some (25, false)), .mov (.tmp 4)⟩,
            ⟨(some 27), (some (25, false)), .bin .gtr (.tmp 26) (.const (.int .u8 122))⟩,
            ⟨(some 28), (some (22, true)), .pick (.tmp 25) (.const (.bool true)) (.tmp 27)⟩,
            ⟨(some 29), none, .pick (.tmp 22) (.tmp 28) (.const (.bool false))⟩,
            ⟨(some 30), none, .mov (.tmp 29)⟩,
            ⟨(some 31), (some (30, true)), .mov (.tmp 4)⟩,
            ⟨(some 32), (some (30, true)), .bin .lss (.tmp 31) (.const (.int .u8 48))⟩,
            ⟨(some 33), (some (30, true)), .mov (.tmp 32)⟩,
            ⟨(some 34), (some (33, false)), .mov (.tmp 4)⟩,
            ⟨(some 35), (some (33, false)), .bin .gtr (.tmp 34) (.const (.int .u8 57))⟩,
            ⟨(some 36), (some (30, true)), .pick (.tmp 33) (.const (.bool true)) (.tmp 35)⟩,
            ⟨(some 37), none, .pick (.tmp 30) (.tmp 36) (.const (.bool false))⟩] [14, 15, 16, 37])
        (.cond (.tmp 37)
          (.seq (.ops [⟨(some 2), none, .mov (.const (.bool false))⟩] [2])
          (.ret))
          (.skip)))))
      (.ops [⟨(some 38), none, .bin .add (.tmp 16) (.const (.int .i64 1))⟩,
          ⟨(some 16), none, .mov (.tmp 38)⟩] [14, 15, 16])))
def c36 : AFun := ⟨
  .seq (.ops [⟨(some 2), none, .mov (.const (.bool false))⟩] [0])
  (.seq (.seq (.ops [⟨(some 5), none, .mov (.tmp 0)⟩,
      ⟨(some 6), none, .len true (.tmp 5)⟩,
      ⟨(some 7), none, .bin .eql (.tmp 6) (.const (.int .i64 0))⟩,
      ⟨(some 8), none, .mov (.tmp 7)⟩,
      ⟨(some 9), (some (8, false)), .mov (.tmp 0)⟩,
      ⟨(some 10), (some (8, false)), .len true (.tmp 9)⟩,
      ⟨(some 11), (some (8, false)), .bin .gtr (.tmp 10) (.const (.int .i64 40))⟩,
      ⟨(some 12), none, .pick (.tmp 8) (.const (.bool true)) (.tmp 11)⟩] [0, 12])
  (.cond (.tmp 12)
    (.seq (.ops [⟨(some 2), none, .mov (.const (.bool false))⟩] [2])
    (.ret))
    (.skip)))
  (.seq (.seq (.ops [⟨(some 13), none, .mov (.tmp 0)⟩,
      ⟨(some 14), none, .s2b 5 (.tmp 13)⟩,
      ⟨(some 15), none, .len false (.tmp 14)⟩,
      ⟨(some 16), none, .mov (.const (.int .i64 0))⟩] [14, 15, 16])
  (.block 0
    (.loop [14, 15, 16]
      c36l0)))
  (.seq (.ops [⟨(some 2), none, .mov (.const (.bool true))⟩] [2])
  (.ret)))),
  39, [(2, none)], true⟩
/- raddle/raddleref40.Word -/
def c37l0 : AC :=
  .seq (.seq (.ops [⟨(some 4), none, .mov (.tmp 3)⟩,
          ⟨(some 5), none, .mov (.tmp 0)⟩,
          ⟨(some 6), none, .len true (.tmp 5)⟩,
          ⟨(some 7), none, .bin .lss (.tmp 4) (.tmp 6)⟩] [0, 3, 7])
      (.cond (.tmp 7)
        (.skip)
        (.exit 0)))
      (.seq (.block 1
        (.seq (.ops [⟨(some 10), none, .mov (.tmp 0)⟩,
            ⟨(some 11), none, .mov (.tmp 3)⟩,
            ⟨(some 12), none, .idxStr (.tmp 10) (.tmp 11)⟩,
            ⟨(some 13), none, .bin .neq (.tmp 12) (.const (.int .u8 45))⟩,
            ⟨(some 14), none, .mov (.tmp 13)⟩,
            ⟨(some 15), (some (14, true)), .mov (.tmp 0)⟩,
            ⟨(some 16), (some (14, true)), .mov (.tmp 3)⟩,
            ⟨(some 17), (some (14, true)), .idxStr (.tmp 15) (.tmp 16)⟩,
            ⟨(some 18), (some (14, true)), .bin .lss (.tmp 17) (.const (.int .u8 97))⟩,
            ⟨(some 19), (some (14, true)), .mov (.tmp 18)⟩,
            ⟨(some 20), (some (19, false)), .mov (.tmp 0)⟩,
            ⟨(some 21), (some (19, false)), .mov (.tmp 3)⟩,
            ⟨(some 22), (some (19, false)), .idxStr (.tmp 20) (.tmp 21)⟩,
            ⟨(some 23), (some (19, false)), .bin .gtr (.tmp 22) (.const (.int .u8 122))⟩,
            ⟨(some 24), (some (14, true)), .pick (.tmp 19) (.const (.bool true)) (.tmp 23)⟩,
            ⟨(some 25), none, .pick (.tmp 14) (.tmp 24) (.const (.bool false))⟩,
            ⟨(some 26), none, .mov (.tmp 25)⟩,
            ⟨(some 27), (some (26, true)), .mov (.tmp 0)⟩,
            ⟨(some 28), (some (26, true)), .mov (.tmp 3)⟩,
            ⟨(some 29), (some (26, true)), .idxStr (.tmp 27) (.tmp 28)⟩,
            ⟨(some 30), (some (26, true)), .bin .lss (.tmp 29) (.const (.int .u8 48))⟩,
            ⟨(some 31), (some (26, true)), .mov (.tmp 30)⟩,
            ⟨(some 32), (some (31, false)), .mov (.tmp 0)⟩,
            ⟨(some 33), (some (31, false)), .mov (.tmp 3)⟩,
            ⟨(some 34), (some (31, false)), .idxStr (.tmp 32) (.tmp 33)⟩,
            ⟨(some 35), (some (31, false)), .bin .gtr (.tmp 34) (.const (.int .u8 57))⟩,
            ⟨(some 36), (some (26, true)), .pick (.tmp 31) (.const (.bool true)) (.tmp 35)⟩,
            ⟨(some 37), none, .pick (.tmp 26) (.tmp 36) (.const (.bool false))⟩] [0, 3, 37])
        (.cond (.tmp 37)
          (.seq (.ops [⟨(some 2), none, .mov (.const (.bool false))⟩] [2])
          (.ret))
          (.skip))))
      (.ops [⟨(some 8), none, .mov (.tmp 3)⟩,
          ⟨(some 9), none, .bin .add (.tmp 8) (.const (.int .i64 1))⟩,
          ⟨(some 3), none, .mov (.tmp 9)⟩] [0, 3]))
def c37 : AFun := ⟨
  .seq (.ops [⟨(some 2), none, .mov (.const (.bool false))⟩] [0])
  (.seq (.seq (.ops [⟨(some 3), none, .mov (.const (.int .i64 0))⟩] [0, 3])
  (.block 0
    (.loop [0, 3]
      c37l0)))
  (.seq (.ops [⟨(some 38), none, .mov (.tmp 0)⟩,
      ⟨(some 39), none, .len true (.tmp 38)⟩,
      ⟨(some 40), none, .bin .geq (.tmp 39) (.const (.int .i64 1))⟩,
      ⟨(some 41), none, .mov (.tmp 40)⟩,
      ⟨(some 42), (some (41, true)), .mov (.tmp 0)⟩,
      ⟨(some 43), (some (41, true)), .len true (.tmp 42)⟩,
      ⟨(some 44), (some (41, true)), .bin .leq (.tmp 43) (.const (.int .i64 40))⟩,
      ⟨(some 45), none, .pick (.tmp 41) (.tmp 44) (.const (.bool false))⟩,
      ⟨(some 2), none, .mov (.tmp 45)⟩] [2])
  (.ret))),
  46, [(2, none)], true⟩
/- raddle/grade.put$1 -/
def c38 : AFun := ⟨
  .seq (.ops [⟨(some 5), none, .mov (.const (.slice none 0 0))⟩] [0, 1, 2, 3])
  (.seq (.ops [⟨(some 6), none, .load none (.tmp 1)⟩,
      ⟨(some 7), none, .bin .add (.tmp 6) (.const (.int .i64 1))⟩,
      ⟨none, none, .store 1 (.tmp 1) (.tmp 7)⟩] [0, 1, 2, 3])
  (.seq (.draw [⟨(some 8), none, .mov (.tmp 0)⟩,
      ⟨(some 9), none, .load none (.tmp 2)⟩,
      ⟨(some 10), none, .load none (.tmp 3)⟩,
      ⟨(some 11), none, .load none (.tmp 1)⟩,
      ⟨(some 12), none, .idxS 1 (.tmp 10) (.tmp 11)⟩,
      ⟨(some 13), none, .load none (.tmp 12)⟩] [⟨(some 14), none, .callF 39 [(.tmp 8), (.tmp 9), (.tmp 13)]⟩,
      ⟨(some 5), none, .mov (.tmp 14)⟩] [[], [], [], [], [], []] [5])
  (.ret))),
  15, [(5, none)], false⟩
/- raddle/grade.with[int] -/
def c39 : AFun := ⟨
  .seq (.ops [⟨(some 6), none, .mov (.const (.slice none 0 0))⟩] [0, 1, 2])
  (.seq (.ops [⟨(some 8), none, .mkRow 3 1 0 [(.int .i64 0)] []⟩,
      ⟨(some 9), none, .mov (.tmp 0)⟩,
      ⟨(some 10), none, .mov (.tmp 1)⟩,
      ⟨(some 11), none, .slc 1 (.tmp 9) none (some (.tmp 10)) none⟩,
      ⟨(some 12), none, .app 3 1 8 (.tmp 8) (.tmp 11)⟩,
      ⟨(some 7), none, .mov (.tmp 12)⟩] [0, 1, 2, 7])
  (.seq (.draw [⟨(some 13), none, .mov (.tmp 7)⟩,
      ⟨(some 14), none, .mov (.tmp 2)⟩,
      ⟨(some 15), none, .mkRow 3 1 1 [(.int .i64 0)] [(0, 1, (.tmp 14))]⟩,
      ⟨(some 16), none, .app 3 1 8 (.tmp 13) (.tmp 15)⟩,
      ⟨(some 17), none, .mov (.tmp 0)⟩,
      ⟨(some 18), none, .mov (.tmp 1)⟩,
      ⟨(some 19), none, .slc 1 (.tmp 17) (some (.tmp 18)) none none⟩] [⟨(some 20), none, .app 3 1 8 (.tmp 16) (.tmp 19)⟩,
      ⟨(some 6), none, .mov (.tmp 20)⟩] [[], [], [], [], [false, false, false, false], [false, false, false, false, false], [true, true, false, false, false, false]] [6])
  (.ret))),
  21, [(6, none)], true⟩
/- raddle/grade.with[string] -/
def c40 : AFun := ⟨
  .seq (.ops [⟨(some 6), none, .mov (.const (.slice none 0 0))⟩] [0, 1, 2])
  (.seq (.ops [⟨(some 8), none, .mkRow 9 1 0 [(.string ⟨#[]⟩)] []⟩,
      ⟨(some 9), none, .mov (.tmp 0)⟩,
      ⟨(some 10), none, .mov (.tmp 1)⟩,
      ⟨(some 11), none, .slc 1 (.tmp 9) none (some (.tmp 10)) none⟩,
      ⟨(some 12), none, .app 9 1 16 (.tmp 8) (.tmp 11)⟩,
      ⟨(some 7), none, .mov (.tmp 12)⟩] [0, 1, 2, 7])
  (.seq (.draw [⟨(some 13), none, .mov (.tmp 7)⟩,
      ⟨(some 14), none, .mov (.tmp 2)⟩,
      ⟨(some 15), none, .mkRow 9 1 1 [(.string ⟨#[]⟩)] [(0, 1, (.tmp 14))]⟩,
      ⟨(some 16), none, .app 9 1 16 (.tmp 13) (.tmp 15)⟩,
      ⟨(some 17), none, .mov (.tmp 0)⟩,
      ⟨(some 18), none, .mov (.tmp 1)⟩,
      ⟨(some 19), none, .slc 1 (.tmp 17) (some (.tmp 18)) none none⟩] [⟨(some 20), none, .app 9 1 16 (.tmp 16) (.tmp 19)⟩,
      ⟨(some 6), none, .mov (.tmp 20)⟩] [[], [], [], [], [false, false, false, false], [false, false, false, false, false], [true, true, false, false, false, false]] [6])
  (.ret))),
  21, [(6, none)], true⟩
theorem ok3 : FunOK Try.prog 3 c3 := ⟨⟨Try.f3, _, c3.code, Try.func3, rfl, by kernel_rfl, rfl, by kernel_rfl, by kernel_rfl⟩⟩
theorem ok4 : FunOK Try.prog 4 c4 := ⟨⟨Try.f4, _, c4.code, Try.func4, rfl, by kernel_rfl, rfl, by kernel_rfl, by kernel_rfl⟩⟩
theorem ok5 : FunOK Try.prog 5 c5 := ⟨⟨Try.f5, _, c5.code, Try.func5, rfl, by kernel_rfl, rfl, by kernel_rfl, by kernel_rfl⟩⟩
theorem ok6 : FunOK Try.prog 6 c6 := ⟨⟨Try.f6, _, c6.code, Try.func6, rfl, by kernel_rfl, rfl, by kernel_rfl, by kernel_rfl⟩⟩
theorem ok7 : FunOK Try.prog 7 c7 := ⟨⟨Try.f7, _, c7.code, Try.func7, rfl, by kernel_rfl, rfl, by kernel_rfl, by kernel_rfl⟩⟩
theorem ok8 : FunOK Try.prog 8 c8 := ⟨⟨Try.f8, _, c8.code, Try.func8, rfl, by kernel_rfl, rfl, by kernel_rfl, by kernel_rfl⟩⟩
theorem ok9 : FunOK Try.prog 9 c9 := ⟨⟨Try.f9, _, c9.code, Try.func9, rfl, by kernel_rfl, rfl, by kernel_rfl, by kernel_rfl⟩⟩
theorem ok10 : FunOK Try.prog 10 c10 := ⟨⟨Try.f10, _, c10.code, Try.func10, rfl, by kernel_rfl, rfl, by kernel_rfl, by kernel_rfl⟩⟩
theorem ok11 : FunOK Try.prog 11 c11 := ⟨⟨Try.f11, _, c11.code, Try.func11, rfl, by kernel_rfl, rfl, by kernel_rfl, by kernel_rfl⟩⟩
theorem ok12 : FunOK Try.prog 12 c12 := ⟨⟨Try.f12, _, c12.code, Try.func12, rfl, by kernel_rfl, rfl, by kernel_rfl, by kernel_rfl⟩⟩
theorem ok13 : FunOK Try.prog 13 c13 := ⟨⟨Try.f13, _, c13.code, Try.func13, rfl, by kernel_rfl, rfl, by kernel_rfl, by kernel_rfl⟩⟩
theorem ok14 : FunOK Try.prog 14 c14 := ⟨⟨Try.f14, _, c14.code, Try.func14, rfl, by kernel_rfl, rfl, by kernel_rfl, by kernel_rfl⟩⟩
theorem ok15 : FunOK Try.prog 15 c15 := ⟨⟨Try.f15, _, c15.code, Try.func15, rfl, by kernel_rfl, rfl, by kernel_rfl, by kernel_rfl⟩⟩
theorem ok16 : FunOK Try.prog 16 c16 := ⟨⟨Try.f16, _, c16.code, Try.func16, rfl, by kernel_rfl, rfl, by kernel_rfl, by kernel_rfl⟩⟩
theorem ok17 : FunOK Try.prog 17 c17 := ⟨⟨Try.f17, _, c17.code, Try.func17, rfl, by kernel_rfl, rfl, by kernel_rfl, by kernel_rfl⟩⟩
theorem ok18 : FunOK Try.prog 18 c18 := ⟨⟨Try.f18, _, c18.code, Try.func18, rfl, by kernel_rfl, rfl, by kernel_rfl, by kernel_rfl⟩⟩
theorem ok19 : FunOK Try.prog 19 c19 := ⟨⟨Try.f19, _, c19.code, Try.func19, rfl, by kernel_rfl, rfl, by kernel_rfl, by kernel_rfl⟩⟩
theorem ok20 : FunOK Try.prog 20 c20 := ⟨⟨Try.f20, _, c20.code, Try.func20, rfl, by kernel_rfl, rfl, by kernel_rfl, by kernel_rfl⟩⟩
theorem ok21 : FunOK Try.prog 21 c21 := ⟨⟨Try.f21, _, c21.code, Try.func21, rfl, by kernel_rfl, rfl, by kernel_rfl, by kernel_rfl⟩⟩
theorem ok22 : FunOK Try.prog 22 c22 := ⟨⟨Try.f22, _, c22.code, Try.func22, rfl, by kernel_rfl, rfl, by kernel_rfl, by kernel_rfl⟩⟩
theorem ok23 : FunOK Try.prog 23 c23 := ⟨⟨Try.f23, _, c23.code, Try.func23, rfl, by kernel_rfl, rfl, by kernel_rfl, by kernel_rfl⟩⟩
theorem ok24 : FunOK Try.prog 24 c24 := ⟨⟨Try.f24, _, c24.code, Try.func24, rfl, by kernel_rfl, rfl, by kernel_rfl, by kernel_rfl⟩⟩
theorem ok25 : FunOK Try.prog 25 c25 := ⟨⟨Try.f25, _, c25.code, Try.func25, rfl, by kernel_rfl, rfl, by kernel_rfl, by kernel_rfl⟩⟩
theorem ok26 : FunOK Try.prog 26 c26 := ⟨⟨Try.f26, _, c26.code, Try.func26, rfl, by kernel_rfl, rfl, by kernel_rfl, by kernel_rfl⟩⟩
theorem ok27 : FunOK Try.prog 27 c27 := ⟨⟨Try.f27, _, c27.code, Try.func27, rfl, by kernel_rfl, rfl, by kernel_rfl, by kernel_rfl⟩⟩
theorem ok28 : FunOK Try.prog 28 c28 := ⟨⟨Try.f28, _, c28.code, Try.func28, rfl, by kernel_rfl, rfl, by kernel_rfl, by kernel_rfl⟩⟩
theorem ok29 : FunOK Try.prog 29 c29 := ⟨⟨Try.f29, _, c29.code, Try.func29, rfl, by kernel_rfl, rfl, by kernel_rfl, by kernel_rfl⟩⟩
theorem ok30 : FunOK Try.prog 30 c30 := ⟨⟨Try.f30, _, c30.code, Try.func30, rfl, by kernel_rfl, rfl, by kernel_rfl, by kernel_rfl⟩⟩
theorem ok31 : FunOK Try.prog 31 c31 := ⟨⟨Try.f31, _, c31.code, Try.func31, rfl, by kernel_rfl, rfl, by kernel_rfl, by kernel_rfl⟩⟩
theorem ok32 : FunOK Try.prog 32 c32 := ⟨⟨Try.f32, _, c32.code, Try.func32, rfl, by kernel_rfl, rfl, by kernel_rfl, by kernel_rfl⟩⟩
theorem ok33 : FunOK Try.prog 33 c33 := ⟨⟨Try.f33, _, c33.code, Try.func33, rfl, by kernel_rfl, rfl, by kernel_rfl, by kernel_rfl⟩⟩
theorem ok34 : FunOK Try.prog 34 c34 := ⟨⟨Try.f34, _, c34.code, Try.func34, rfl, by kernel_rfl, rfl, by kernel_rfl, by kernel_rfl⟩⟩
theorem ok35 : FunOK Try.prog 35 c35 := ⟨⟨Try.f35, _, c35.code, Try.func35, rfl, by kernel_rfl, rfl, by kernel_rfl, by kernel_rfl⟩⟩
theorem ok36 : FunOK Try.prog 36 c36 := ⟨⟨Try.f36, _, c36.code, Try.func36, rfl, by kernel_rfl, rfl, by kernel_rfl, by kernel_rfl⟩⟩
theorem ok37 : FunOK Try.prog 37 c37 := ⟨⟨Try.f37, _, c37.code, Try.func37, rfl, by kernel_rfl, rfl, by kernel_rfl, by kernel_rfl⟩⟩
theorem ok38 : FunOK Try.prog 38 c38 := ⟨⟨Try.f38, _, c38.code, Try.func38, rfl, by kernel_rfl, rfl, by kernel_rfl, by kernel_rfl⟩⟩
theorem ok39 : FunOK Try.prog 39 c39 := ⟨⟨Try.f39, _, c39.code, Try.func39, rfl, by kernel_rfl, rfl, by kernel_rfl, by kernel_rfl⟩⟩
theorem ok40 : FunOK Try.prog 40 c40 := ⟨⟨Try.f40, _, c40.code, Try.func40, rfl, by kernel_rfl, rfl, by kernel_rfl, by kernel_rfl⟩⟩
def fns : FuncId → Option AFun
  | 3 => some c3
  | 4 => some c4
  | 5 => some c5
  | 6 => some c6
  | 7 => some c7
  | 8 => some c8
  | 9 => some c9
  | 10 => some c10
  | 11 => some c11
  | 12 => some c12
  | 13 => some c13
  | 14 => some c14
  | 15 => some c15
  | 16 => some c16
  | 17 => some c17
  | 18 => some c18
  | 19 => some c19
  | 20 => some c20
  | 21 => some c21
  | 22 => some c22
  | 23 => some c23
  | 24 => some c24
  | 25 => some c25
  | 26 => some c26
  | 27 => some c27
  | 28 => some c28
  | 29 => some c29
  | 30 => some c30
  | 31 => some c31
  | 32 => some c32
  | 33 => some c33
  | 34 => some c34
  | 35 => some c35
  | 36 => some c36
  | 37 => some c37
  | 38 => some c38
  | 39 => some c39
  | 40 => some c40
  | _ => none
theorem fns_ok : FunsOK Try.prog fns := by
  intro f af h
  unfold fns at h
  split at h
  · cases h; exact ok3
  · cases h; exact ok4
  · cases h; exact ok5
  · cases h; exact ok6
  · cases h; exact ok7
  · cases h; exact ok8
  · cases h; exact ok9
  · cases h; exact ok10
  · cases h; exact ok11
  · cases h; exact ok12
  · cases h; exact ok13
  · cases h; exact ok14
  · cases h; exact ok15
  · cases h; exact ok16
  · cases h; exact ok17
  · cases h; exact ok18
  · cases h; exact ok19
  · cases h; exact ok20
  · cases h; exact ok21
  · cases h; exact ok22
  · cases h; exact ok23
  · cases h; exact ok24
  · cases h; exact ok25
  · cases h; exact ok26
  · cases h; exact ok27
  · cases h; exact ok28
  · cases h; exact ok29
  · cases h; exact ok30
  · cases h; exact ok31
  · cases h; exact ok32
  · cases h; exact ok33
  · cases h; exact ok34
  · cases h; exact ok35
  · cases h; exact ok36
  · cases h; exact ok37
  · cases h; exact ok38
  · cases h; exact ok39
  · cases h; exact ok40
  · cases h
end Go.Proofs.Yteibgbbfcjgjiaa
namespace Go.Proofs.Yteibgbbfcjgjiaa
open Go Go.Itp
set_option linter.unusedSimpArgs false
set_option linter.unusedVariables false
set_option maxRecDepth 100000
set_option maxHeartbeats 1000000
attribute [local irreducible] Does
abbrev EN (w : World) (n : Nat) : Env := callP (oldOf w) many fns (fun _ _ _ => none) n
abbrev vI : Int → Value := .int .i64
theorem idsL_ints (n0 : Nat) (l : List Int) : idsL n0 (l.map vI) = [] := idsL_map (fun _ => rfl) l

/-! ### words -/
def wch (b : UInt8) : Bool := decide (¬ (((b.toNat : Nat) : Int) ≠ 45 ∧ (((b.toNat : Nat) : Int) < 97 ∨ 122 < ((b.toNat : Nat) : Int)) ∧ (((b.toNat : Nat) : Int) < 48 ∨ 57 < ((b.toNat : Nat) : Int))))
def wordS (s : ByteArray) : Bool := decide (1 ≤ s.size ∧ s.size ≤ 40 ∧ ∀ j, j < s.size → wch s.data.toList[j]! = true)
theorem word_p (w : World) (n : Nat) (s : ByteArray) {h : Heap} {nx p : Nat} (hs : s.size ≤ 140737488351232) : (EN w (n + 1)).pcall 36 [.string s] ⟨h, nx, p⟩ = some (.bool (wordS s), []) := by
  refine pcall_eq rfl rfl (Nat.le_of_ble_eq_true rfl) ?_
  by_cases h0 : (s.size : Int) = 0
  · repeat' (first | (simp (disch := first | omega | assumption | exact callP_old _ _ _ _ _ | exact one_int _ _ | exact one_bool _ | exact one_string _ | exact one_slice _ _ _ | exact one_pointer _ | exact hget_push_one _ _ _ _ (by omega) | (simp only [List.length_map, List.length_set, List.length_replicate]; omega) | (rw [hget_push_lt _ _ _ _ (by omega)]; first | assumption | exact hget_push_one _ _ _ _ (by omega))) only [runK_nil, runK_seq, runK_seq_exit, runK_seq_ret, runK_block_normal, runK_block_exit, runK_block_ret, go_skip, go_ret, go_exit, go_seq, go_block, go_ops, goO_nil, goO_cons, goV_some, goO_guard, goG_yes, goG_tf, goG_ft, goG_tuple, goPG_tuple, go_cond, goI_true, goI_false, go_draw, goP_nil, goP_cons, goPV_some, goP_guard, goPG_yes, goPG_tf, goPG_ft, does_some, loopP_normal, loopP_exit, loopP_ret, contE_eq, contR_eq, row0, row1, row2, row3, expand_one, replicate_int, replicate_bool, mkSlice_one, idxS_new, idxA_new, len_slice, hget_set_self, Option.map_some, set_int, set_bool, get_set_eq, get_set_ne, op1_some, op2_some, ret1_some, retP_some, retB_some, push_eq, pickX_true, pickX_false, callR_some, callR_none, callX_some, callY_some, slcSX_some, slcX_some, slcAX_some, s_mov, s_pick, s_alloc, s_box, s_build, s_mkRow, s_load, s_nilChk, s_bin, s_eqB, s_eqNil, s_un, s_convI, s_convS, s_b2s, s_mkSlice, s_slcS, s_slc, s_slcA, s_fldA, s_fldV, s_idxS, s_idxA, s_idxStr, s_idxV, s_ext, s_mkFn, s_mkIf, s_len, s_mm, s_cap, s_eqIf, s_callF, s_callV, s_app, s_store, s_copy, q_mov, q_pick, q_alloc, q_box, q_build, q_mkRow, q_load, q_nilChk, q_bin, q_eqB, q_eqNil, q_un, q_convI, q_convS, q_b2s, q_mkSlice, q_slcS, q_slc, q_slcA, q_fldA, q_fldV, q_idxS, q_idxA, q_idxStr, q_idxV, q_ext, q_mkFn, q_mkIf, q_len, q_mm, q_callF, q_cap, q_eqIf, evs_nil, consO_some, evs_cons, evO_none, mapO_some, evO_some, evParts_nil, consP_some, evParts_cons, hiddenHeap_nil, hiddenHeap_true, hiddenHeap_false, hiddenHeap_all, hpush_nil, ev_tmp, ev_const, fget_cons', fput_nil, fput_cons', fputO_some, fputO_none, elemB_nil, elemB_cons', fkeep_nil, fkeep_cons', args0, slotsL, opdsA, List.cons_append, List.nil_append, List.map_cons, List.map_nil, List.append_nil, Option.toList_some, Option.toList_none, decide_yes, decide_no, b_lss, b_leq, b_gtr, b_geq, b_eql, b_neq, b_add, b_sub, b_mul, b_quo_pos, b_rem_pos, b_seql, b_sneq, wrap64, u_not, u_neg, not_decide', eqB_f, eqB_t, idxNat_in, mm_max, mm_min, convI_int, ext_tuple, lget_zero, lget_succ, loadA_old, aload_old, callP_old, callP_rounds, gcO_some, retE_ret, retE_normal, Value.int.injEq, Value.bool.injEq, Value.string.injEq, true_and, and_true, and_self, retP_ret, retP_normal, retX_some, retW_ret, retW_normal, retWX_some, resOf_nil, resOf_tmp, resOf_cell, tupleOf_one, tupleOf_two, loadO_new, loadB_some, Nat.reduceEqDiff, Nat.reduceLT, Nat.reduceAdd, Nat.reduceBEq, Int.reduceAdd, Int.reduceSub, Int.reduceLT, Int.reduceLE, Int.reduceEq, Int.reduceNeg, ↓reduceIte, if_true, if_false, Bool.false_eq_true, Bool.not_true, Bool.not_false, List.length_cons, List.length_nil, List.length_singleton, reduceCtorEq, Int.toNat_natCast, decide_true, decide_false, Nat.zero_add, Nat.add_zero, Int.add_sub_cancel, eq_self, not_true_eq_false, not_false_eq_true, hget_push_one, hget_push_lt, hget_push_gt, hget_set_ne, storeA_new, storeB_some, one_int, one_bool, one_string, one_slice, one_pointer, lget_map, gc_int, gc_bool, gc_string, gc_nil_int, gc_int_int, gc_string_int, idxStr_in, len_string, q_s2b, s_s2b, s2b_string, box_agg, fldA_new, loadAgg_new, loadN_some, ltake_zero, ltake_succ, List.drop_zero, List.drop_succ_cons, Option.some.injEq, Prod.mk.injEq]) | (refine does_goI_dec (fun _ => ?_) (fun _ => ?_)) | (refine does_goG_dec (fun _ => ?_) (fun _ => ?_)) | (refine does_goI (fun _ => ?_) (fun _ => ?_)) | (refine does_goG (fun _ => ?_) (fun _ => ?_)))
    exact (decide_no (by omega)).symm
  by_cases h4 : (40 : Int) < s.size
  · repeat' (first | (simp (disch := first | omega | assumption | exact callP_old _ _ _ _ _ | exact one_int _ _ | exact one_bool _ | exact one_string _ | exact one_slice _ _ _ | exact one_pointer _ | exact hget_push_one _ _ _ _ (by omega) | (simp only [List.length_map, List.length_set, List.length_replicate]; omega) | (rw [hget_push_lt _ _ _ _ (by omega)]; first | assumption | exact hget_push_one _ _ _ _ (by omega))) only [runK_nil, runK_seq, runK_seq_exit, runK_seq_ret, runK_block_normal, runK_block_exit, runK_block_ret, go_skip, go_ret, go_exit, go_seq, go_block, go_ops, goO_nil, goO_cons, goV_some, goO_guard, goG_yes, goG_tf, goG_ft, goG_tuple, goPG_tuple, go_cond, goI_true, goI_false, go_draw, goP_nil, goP_cons, goPV_some, goP_guard, goPG_yes, goPG_tf, goPG_ft, does_some, loopP_normal, loopP_exit, loopP_ret, contE_eq, contR_eq, row0, row1, row2, row3, expand_one, replicate_int, replicate_bool, mkSlice_one, idxS_new, idxA_new, len_slice, hget_set_self, Option.map_some, set_int, set_bool, get_set_eq, get_set_ne, op1_some, op2_some, ret1_some, retP_some, retB_some, push_eq, pickX_true, pickX_false, callR_some, callR_none, callX_some, callY_some, slcSX_some, slcX_some, slcAX_some, s_mov, s_pick, s_alloc, s_box, s_build, s_mkRow, s_load, s_nilChk, s_bin, s_eqB, s_eqNil, s_un, s_convI, s_convS, s_b2s, s_mkSlice, s_slcS, s_slc, s_slcA, s_fldA, s_fldV, s_idxS, s_idxA, s_idxStr, s_idxV, s_ext, s_mkFn, s_mkIf, s_len, s_mm, s_cap, s_eqIf, s_callF, s_callV, s_app, s_store, s_copy, q_mov, q_pick, q_alloc, q_box, q_build, q_mkRow, q_load, q_nilChk, q_bin, q_eqB, q_eqNil, q_un, q_convI, q_convS, q_b2s, q_mkSlice, q_slcS, q_slc, q_slcA, q_fldA, q_fldV, q_idxS, q_idxA, q_idxStr, q_idxV, q_ext, q_mkFn, q_mkIf, q_len, q_mm, q_callF, q_cap, q_eqIf, evs_nil, consO_some, evs_cons, evO_none, mapO_some, evO_some, evParts_nil, consP_some, evParts_cons, hiddenHeap_nil, hiddenHeap_true, hiddenHeap_false, hiddenHeap_all, hpush_nil, ev_tmp, ev_const, fget_cons', fput_nil, fput_cons', fputO_some, fputO_none, elemB_nil, elemB_cons', fkeep_nil, fkeep_cons', args0, slotsL, opdsA, List.cons_append, List.nil_append, List.map_cons, List.map_nil, List.append_nil, Option.toList_some, Option.toList_none, decide_yes, decide_no, b_lss, b_leq, b_gtr, b_geq, b_eql, b_neq, b_add, b_sub, b_mul, b_quo_pos, b_rem_pos, b_seql, b_sneq, wrap64, u_not, u_neg, not_decide', eqB_f, eqB_t, idxNat_in, mm_max, mm_min, convI_int, ext_tuple, lget_zero, lget_succ, loadA_old, aload_old, callP_old, callP_rounds, gcO_some, retE_ret, retE_normal, Value.int.injEq, Value.bool.injEq, Value.string.injEq, true_and, and_true, and_self, retP_ret, retP_normal, retX_some, retW_ret, retW_normal, retWX_some, resOf_nil, resOf_tmp, resOf_cell, tupleOf_one, tupleOf_two, loadO_new, loadB_some, Nat.reduceEqDiff, Nat.reduceLT, Nat.reduceAdd, Nat.reduceBEq, Int.reduceAdd, Int.reduceSub, Int.reduceLT, Int.reduceLE, Int.reduceEq, Int.reduceNeg, ↓reduceIte, if_true, if_false, Bool.false_eq_true, Bool.not_true, Bool.not_false, List.length_cons, List.length_nil, List.length_singleton, reduceCtorEq, Int.toNat_natCast, decide_true, decide_false, Nat.zero_add, Nat.add_zero, Int.add_sub_cancel, eq_self, not_true_eq_false, not_false_eq_true, hget_push_one, hget_push_lt, hget_push_gt, hget_set_ne, storeA_new, storeB_some, one_int, one_bool, one_string, one_slice, one_pointer, lget_map, gc_int, gc_bool, gc_string, gc_nil_int, gc_int_int, gc_string_int, idxStr_in, len_string, q_s2b, s_s2b, s2b_string, box_agg, fldA_new, loadAgg_new, loadN_some, ltake_zero, ltake_succ, List.drop_zero, List.drop_succ_cons, Option.some.injEq, Prod.mk.injEq]) | (refine does_goI_dec (fun _ => ?_) (fun _ => ?_)) | (refine does_goG_dec (fun _ => ?_) (fun _ => ?_)) | (refine does_goI (fun _ => ?_) (fun _ => ?_)) | (refine does_goG (fun _ => ?_) (fun _ => ?_)))
    exact (decide_no (by omega)).symm
  have hrd : Rd (oldOf w) (hpush h nx [⟨s.data.toList.map vB, 1, true, 5⟩]) vB (.slice (some ⟨nx, 0, some 0⟩) s.size (big + s.size)) s.data.toList :=
    Rd.newb (hget_push_one _ _ _ _ rfl) rfl (size_toList s).symm (by unfold knownCap; rw [if_neg (by rw [Nat.blt_eq]; omega)]; omega)
  have hsz := size_toList s
  repeat' (first | (simp (disch := first | omega | assumption | exact callP_old _ _ _ _ _ | exact one_int _ _ | exact one_bool _ | exact one_string _ | exact one_slice _ _ _ | exact one_pointer _ | exact hget_push_one _ _ _ _ (by omega) | (simp only [List.length_map, List.length_set, List.length_replicate]; omega) | (rw [hget_push_lt _ _ _ _ (by omega)]; first | assumption | exact hget_push_one _ _ _ _ (by omega))) only [runK_nil, runK_seq, runK_seq_exit, runK_seq_ret, runK_block_normal, runK_block_exit, runK_block_ret, go_skip, go_ret, go_exit, go_seq, go_block, go_ops, goO_nil, goO_cons, goV_some, goO_guard, goG_yes, goG_tf, goG_ft, goG_tuple, goPG_tuple, go_cond, goI_true, goI_false, go_draw, goP_nil, goP_cons, goPV_some, goP_guard, goPG_yes, goPG_tf, goPG_ft, does_some, loopP_normal, loopP_exit, loopP_ret, contE_eq, contR_eq, row0, row1, row2, row3, expand_one, replicate_int, replicate_bool, mkSlice_one, idxS_new, idxA_new, len_slice, hget_set_self, Option.map_some, set_int, set_bool, get_set_eq, get_set_ne, op1_some, op2_some, ret1_some, retP_some, retB_some, push_eq, pickX_true, pickX_false, callR_some, callR_none, callX_some, callY_some, slcSX_some, slcX_some, slcAX_some, s_mov, s_pick, s_alloc, s_box, s_build, s_mkRow, s_load, s_nilChk, s_bin, s_eqB, s_eqNil, s_un, s_convI, s_convS, s_b2s, s_mkSlice, s_slcS, s_slc, s_slcA, s_fldA, s_fldV, s_idxS, s_idxA, s_idxStr, s_idxV, s_ext, s_mkFn, s_mkIf, s_len, s_mm, s_cap, s_eqIf, s_callF, s_callV, s_app, s_store, s_copy, q_mov, q_pick, q_alloc, q_box, q_build, q_mkRow, q_load, q_nilChk, q_bin, q_eqB, q_eqNil, q_un, q_convI, q_convS, q_b2s, q_mkSlice, q_slcS, q_slc, q_slcA, q_fldA, q_fldV, q_idxS, q_idxA, q_idxStr, q_idxV, q_ext, q_mkFn, q_mkIf, q_len, q_mm, q_callF, q_cap, q_eqIf, evs_nil, consO_some, evs_cons, evO_none, mapO_some, evO_some, evParts_nil, consP_some, evParts_cons, hiddenHeap_nil, hiddenHeap_true, hiddenHeap_false, hiddenHeap_all, hpush_nil, ev_tmp, ev_const, fget_cons', fput_nil, fput_cons', fputO_some, fputO_none, elemB_nil, elemB_cons', fkeep_nil, fkeep_cons', args0, slotsL, opdsA, List.cons_append, List.nil_append, List.map_cons, List.map_nil, List.append_nil, Option.toList_some, Option.toList_none, decide_yes, decide_no, b_lss, b_leq, b_gtr, b_geq, b_eql, b_neq, b_add, b_sub, b_mul, b_quo_pos, b_rem_pos, b_seql, b_sneq, wrap64, u_not, u_neg, not_decide', eqB_f, eqB_t, idxNat_in, mm_max, mm_min, convI_int, ext_tuple, lget_zero, lget_succ, loadA_old, aload_old, callP_old, callP_rounds, gcO_some, retE_ret, retE_normal, Value.int.injEq, Value.bool.injEq, Value.string.injEq, true_and, and_true, and_self, retP_ret, retP_normal, retX_some, retW_ret, retW_normal, retWX_some, resOf_nil, resOf_tmp, resOf_cell, tupleOf_one, tupleOf_two, loadO_new, loadB_some, Nat.reduceEqDiff, Nat.reduceLT, Nat.reduceAdd, Nat.reduceBEq, Int.reduceAdd, Int.reduceSub, Int.reduceLT, Int.reduceLE, Int.reduceEq, Int.reduceNeg, ↓reduceIte, if_true, if_false, Bool.false_eq_true, Bool.not_true, Bool.not_false, List.length_cons, List.length_nil, List.length_singleton, reduceCtorEq, Int.toNat_natCast, decide_true, decide_false, Nat.zero_add, Nat.add_zero, Int.add_sub_cancel, eq_self, not_true_eq_false, not_false_eq_true, hget_push_one, hget_push_lt, hget_push_gt, hget_set_ne, storeA_new, storeB_some, one_int, one_bool, one_string, one_slice, one_pointer, lget_map, gc_int, gc_bool, gc_string, gc_nil_int, gc_int_int, gc_string_int, idxStr_in, len_string, q_s2b, s_s2b, s2b_string, box_agg, fldA_new, loadAgg_new, loadN_some, ltake_zero, ltake_succ, List.drop_zero, List.drop_succ_cons, Option.some.injEq, Prod.mk.injEq]) | (refine does_goI_dec (fun _ => ?_) (fun _ => ?_)) | (refine does_goG_dec (fun _ => ?_) (fun _ => ?_)) | (refine does_goI (fun _ => ?_) (fun _ => ?_)) | (refine does_goG (fun _ => ?_) (fun _ => ?_)))
  refine does_while (fun m fr t => ∃ k : Nat, m = s.size - k ∧ k ≤ s.size ∧ fr = [(14, .slice (some ⟨nx, 0, some 0⟩) s.size (big + s.size)), (15, .int .i64 s.size), (16, .int .i64 k)] ∧
    t = ⟨hpush h nx [⟨s.data.toList.map vB, 1, true, 5⟩], nx + 1, nx⟩ ∧ ∀ j, j < k → wch s.data.toList[j]! = true) (m := s.size) ?_ ?_ ?_
  · exact ⟨0, by omega, by omega, rfl, rfl, by omega⟩
  · simp (disch := first | omega | assumption | exact callP_old _ _ _ _ _ | exact one_int _ _ | exact one_bool _ | exact one_string _ | exact one_slice _ _ _ | exact one_pointer _ | exact hget_push_one _ _ _ _ (by omega) | (simp only [List.length_map, List.length_set, List.length_replicate]; omega) | (rw [hget_push_lt _ _ _ _ (by omega)]; first | assumption | exact hget_push_one _ _ _ _ (by omega))) only [runK_nil, runK_seq, runK_seq_exit, runK_seq_ret, runK_block_normal, runK_block_exit, runK_block_ret, go_skip, go_ret, go_exit, go_seq, go_block, go_ops, goO_nil, goO_cons, goV_some, goO_guard, goG_yes, goG_tf, goG_ft, goG_tuple, goPG_tuple, go_cond, goI_true, goI_false, go_draw, goP_nil, goP_cons, goPV_some, goP_guard, goPG_yes, goPG_tf, goPG_ft, does_some, loopP_normal, loopP_exit, loopP_ret, contE_eq, contR_eq, row0, row1, row2, row3, expand_one, replicate_int, replicate_bool, mkSlice_one, idxS_new, idxA_new, len_slice, hget_set_self, Option.map_some, set_int, set_bool, get_set_eq, get_set_ne, op1_some, op2_some, ret1_some, retP_some, retB_some, push_eq, pickX_true, pickX_false, callR_some, callR_none, callX_some, callY_some, slcSX_some, slcX_some, slcAX_some, s_mov, s_pick, s_alloc, s_box, s_build, s_mkRow, s_load, s_nilChk, s_bin, s_eqB, s_eqNil, s_un, s_convI, s_convS, s_b2s, s_mkSlice, s_slcS, s_slc, s_slcA, s_fldA, s_fldV, s_idxS, s_idxA, s_idxStr, s_idxV, s_ext, s_mkFn, s_mkIf, s_len, s_mm, s_cap, s_eqIf, s_callF, s_callV, s_app, s_store, s_copy, q_mov, q_pick, q_alloc, q_box, q_build, q_mkRow, q_load, q_nilChk, q_bin, q_eqB, q_eqNil, q_un, q_convI, q_convS, q_b2s, q_mkSlice, q_slcS, q_slc, q_slcA, q_fldA, q_fldV, q_idxS, q_idxA, q_idxStr, q_idxV, q_ext, q_mkFn, q_mkIf, q_len, q_mm, q_callF, q_cap, q_eqIf, evs_nil, consO_some, evs_cons, evO_none, mapO_some, evO_some, evParts_nil, consP_some, evParts_cons, hiddenHeap_nil, hiddenHeap_true, hiddenHeap_false, hiddenHeap_all, hpush_nil, ev_tmp, ev_const, fget_cons', fput_nil, fput_cons', fputO_some, fputO_none, elemB_nil, elemB_cons', fkeep_nil, fkeep_cons', args0, slotsL, opdsA, List.cons_append, List.nil_append, List.map_cons, List.map_nil, List.append_nil, Option.toList_some, Option.toList_none, decide_yes, decide_no, b_lss, b_leq, b_gtr, b_geq, b_eql, b_neq, b_add, b_sub, b_mul, b_quo_pos, b_rem_pos, b_seql, b_sneq, wrap64, u_not, u_neg, not_decide', eqB_f, eqB_t, idxNat_in, mm_max, mm_min, convI_int, ext_tuple, lget_zero, lget_succ, loadA_old, aload_old, callP_old, callP_rounds, gcO_some, retE_ret, retE_normal, Value.int.injEq, Value.bool.injEq, Value.string.injEq, true_and, and_true, and_self, retP_ret, retP_normal, retX_some, retW_ret, retW_normal, retWX_some, resOf_nil, resOf_tmp, resOf_cell, tupleOf_one, tupleOf_two, loadO_new, loadB_some, Nat.reduceEqDiff, Nat.reduceLT, Nat.reduceAdd, Nat.reduceBEq, Int.reduceAdd, Int.reduceSub, Int.reduceLT, Int.reduceLE, Int.reduceEq, Int.reduceNeg, ↓reduceIte, if_true, if_false, Bool.false_eq_true, Bool.not_true, Bool.not_false, List.length_cons, List.length_nil, List.length_singleton, reduceCtorEq, Int.toNat_natCast, decide_true, decide_false, Nat.zero_add, Nat.add_zero, Int.add_sub_cancel, eq_self, not_true_eq_false, not_false_eq_true, hget_push_one, hget_push_lt, hget_push_gt, hget_set_ne, storeA_new, storeB_some, one_int, one_bool, one_string, one_slice, one_pointer, lget_map, gc_int, gc_bool, gc_string, gc_nil_int, gc_int_int, gc_string_int, idxStr_in, len_string, q_s2b, s_s2b, s2b_string, box_agg, fldA_new, loadAgg_new, loadN_some, ltake_zero, ltake_succ, List.drop_zero, List.drop_succ_cons, Option.some.injEq, Prod.mk.injEq]
    unfold many; omega
  · rintro m fr t ⟨k, rfl, hk, rfl, rfl, hj⟩
    by_cases hlt : k < s.size
    · have hlt' : k < s.data.toList.length := by omega
      repeat' (first | (simp (disch := first | omega | assumption | exact callP_old _ _ _ _ _ | exact one_int _ _ | exact one_bool _ | exact one_string _ | exact one_slice _ _ _ | exact one_pointer _ | exact hget_push_one _ _ _ _ (by omega) | (simp only [List.length_map, List.length_set, List.length_replicate]; omega) | (rw [hget_push_lt _ _ _ _ (by omega)]; first | assumption | exact hget_push_one _ _ _ _ (by omega))) only [runK_nil, runK_seq, runK_seq_exit, runK_seq_ret, runK_block_normal, runK_block_exit, runK_block_ret, go_skip, go_ret, go_exit, go_seq, go_block, go_ops, goO_nil, goO_cons, goV_some, goO_guard, goG_yes, goG_tf, goG_ft, goG_tuple, goPG_tuple, go_cond, goI_true, goI_false, go_draw, goP_nil, goP_cons, goPV_some, goP_guard, goPG_yes, goPG_tf, goPG_ft, does_some, loopP_normal, loopP_exit, loopP_ret, contE_eq, contR_eq, row0, row1, row2, row3, expand_one, replicate_int, replicate_bool, mkSlice_one, idxS_new, idxA_new, len_slice, hget_set_self, Option.map_some, set_int, set_bool, get_set_eq, get_set_ne, op1_some, op2_some, ret1_some, retP_some, retB_some, push_eq, pickX_true, pickX_false, callR_some, callR_none, callX_some, callY_some, slcSX_some, slcX_some, slcAX_some, s_mov, s_pick, s_alloc, s_box, s_build, s_mkRow, s_load, s_nilChk, s_bin, s_eqB, s_eqNil, s_un, s_convI, s_convS, s_b2s, s_mkSlice, s_slcS, s_slc, s_slcA, s_fldA, s_fldV, s_idxS, s_idxA, s_idxStr, s_idxV, s_ext, s_mkFn, s_mkIf, s_len, s_mm, s_cap, s_eqIf, s_callF, s_callV, s_app, s_store, s_copy, q_mov, q_pick, q_alloc, q_box, q_build, q_mkRow, q_load, q_nilChk, q_bin, q_eqB, q_eqNil, q_un, q_convI, q_convS, q_b2s, q_mkSlice, q_slcS, q_slc, q_slcA, q_fldA, q_fldV, q_idxS, q_idxA, q_idxStr, q_idxV, q_ext, q_mkFn, q_mkIf, q_len, q_mm, q_callF, q_cap, q_eqIf, evs_nil, consO_some, evs_cons, evO_none, mapO_some, evO_some, evParts_nil, consP_some, evParts_cons, hiddenHeap_nil, hiddenHeap_true, hiddenHeap_false, hiddenHeap_all, hpush_nil, ev_tmp, ev_const, fget_cons', fput_nil, fput_cons', fputO_some, fputO_none, elemB_nil, elemB_cons', fkeep_nil, fkeep_cons', args0, slotsL, opdsA, List.cons_append, List.nil_append, List.map_cons, List.map_nil, List.append_nil, Option.toList_some, Option.toList_none, decide_yes, decide_no, b_lss, b_leq, b_gtr, b_geq, b_eql, b_neq, b_add, b_sub, b_mul, b_quo_pos, b_rem_pos, b_seql, b_sneq, wrap64, u_not, u_neg, not_decide', eqB_f, eqB_t, idxNat_in, mm_max, mm_min, convI_int, ext_tuple, lget_zero, lget_succ, loadA_old, aload_old, callP_old, callP_rounds, gcO_some, retE_ret, retE_normal, Value.int.injEq, Value.bool.injEq, Value.string.injEq, true_and, and_true, and_self, retP_ret, retP_normal, retX_some, retW_ret, retW_normal, retWX_some, resOf_nil, resOf_tmp, resOf_cell, tupleOf_one, tupleOf_two, loadO_new, loadB_some, Nat.reduceEqDiff, Nat.reduceLT, Nat.reduceAdd, Nat.reduceBEq, Int.reduceAdd, Int.reduceSub, Int.reduceLT, Int.reduceLE, Int.reduceEq, Int.reduceNeg, ↓reduceIte, if_true, if_false, Bool.false_eq_true, Bool.not_true, Bool.not_false, List.length_cons, List.length_nil, List.length_singleton, reduceCtorEq, Int.toNat_natCast, decide_true, decide_false, Nat.zero_add, Nat.add_zero, Int.add_sub_cancel, eq_self, not_true_eq_false, not_false_eq_true, hget_push_one, hget_push_lt, hget_push_gt, hget_set_ne, storeA_new, storeB_some, one_int, one_bool, one_string, one_slice, one_pointer, lget_map, gc_int, gc_bool, gc_string, gc_nil_int, gc_int_int, gc_string_int, idxStr_in, len_string, q_s2b, s_s2b, s2b_string, box_agg, fldA_new, loadAgg_new, loadN_some, ltake_zero, ltake_succ, List.drop_zero, List.drop_succ_cons, Option.some.injEq, Prod.mk.injEq, c36l0, hrd.idx, hrd.load, vB]) | (refine does_goI_dec (fun _ => ?_) (fun _ => ?_)) | (refine does_goG_dec (fun _ => ?_) (fun _ => ?_)) | (refine does_goI (fun _ => ?_) (fun _ => ?_)) | (refine does_goG (fun _ => ?_) (fun _ => ?_)))
      all_goals first
        | (refine (decide_no fun ⟨_, _, h3⟩ => ?_).symm
           have := of_decide_eq_true (h3 k hlt)
           omega)
        | (refine ⟨_, ?_, k + 1, rfl, hlt, by simp, lt_succ_cases hj (decide_yes (by omega))⟩
           omega)
    · have : k = s.size := by omega
      subst this
      repeat' (first | (simp (disch := first | omega | assumption | exact callP_old _ _ _ _ _ | exact one_int _ _ | exact one_bool _ | exact one_string _ | exact one_slice _ _ _ | exact one_pointer _ | exact hget_push_one _ _ _ _ (by omega) | (simp only [List.length_map, List.length_set, List.length_replicate]; omega) | (rw [hget_push_lt _ _ _ _ (by omega)]; first | assumption | exact hget_push_one _ _ _ _ (by omega))) only [runK_nil, runK_seq, runK_seq_exit, runK_seq_ret, runK_block_normal, runK_block_exit, runK_block_ret, go_skip, go_ret, go_exit, go_seq, go_block, go_ops, goO_nil, goO_cons, goV_some, goO_guard, goG_yes, goG_tf, goG_ft, goG_tuple, goPG_tuple, go_cond, goI_true, goI_false, go_draw, goP_nil, goP_cons, goPV_some, goP_guard, goPG_yes, goPG_tf, goPG_ft, does_some, loopP_normal, loopP_exit, loopP_ret, contE_eq, contR_eq, row0, row1, row2, row3, expand_one, replicate_int, replicate_bool, mkSlice_one, idxS_new, idxA_new, len_slice, hget_set_self, Option.map_some, set_int, set_bool, get_set_eq, get_set_ne, op1_some, op2_some, ret1_some, retP_some, retB_some, push_eq, pickX_true, pickX_false, callR_some, callR_none, callX_some, callY_some, slcSX_some, slcX_some, slcAX_some, s_mov, s_pick, s_alloc, s_box, s_build, s_mkRow, s_load, s_nilChk, s_bin, s_eqB, s_eqNil, s_un, s_convI, s_convS, s_b2s, s_mkSlice, s_slcS, s_slc, s_slcA, s_fldA, s_fldV, s_idxS, s_idxA, s_idxStr, s_idxV, s_ext, s_mkFn, s_mkIf, s_len, s_mm, s_cap, s_eqIf, s_callF, s_callV, s_app, s_store, s_copy, q_mov, q_pick, q_alloc, q_box, q_build, q_mkRow, q_load, q_nilChk, q_bin, q_eqB, q_eqNil, q_un, q_convI, q_convS, q_b2s, q_mkSlice, q_slcS, q_slc, q_slcA, q_fldA, q_fldV, q_idxS, q_idxA, q_idxStr, q_idxV, q_ext, q_mkFn, q_mkIf, q_len, q_mm, q_callF, q_cap, q_eqIf, evs_nil, consO_some, evs_cons, evO_none, mapO_some, evO_some, evParts_nil, consP_some, evParts_cons, hiddenHeap_nil, hiddenHeap_true, hiddenHeap_false, hiddenHeap_all, hpush_nil, ev_tmp, ev_const, fget_cons', fput_nil, fput_cons', fputO_some, fputO_none, elemB_nil, elemB_cons', fkeep_nil, fkeep_cons', args0, slotsL, opdsA, List.cons_append, List.nil_append, List.map_cons, List.map_nil, List.append_nil, Option.toList_some, Option.toList_none, decide_yes, decide_no, b_lss, b_leq, b_gtr, b_geq, b_eql, b_neq, b_add, b_sub, b_mul, b_quo_pos, b_rem_pos, b_seql, b_sneq, wrap64, u_not, u_neg, not_decide', eqB_f, eqB_t, idxNat_in, mm_max, mm_min, convI_int, ext_tuple, lget_zero, lget_succ, loadA_old, aload_old, callP_old, callP_rounds, gcO_some, retE_ret, retE_normal, Value.int.injEq, Value.bool.injEq, Value.string.injEq, true_and, and_true, and_self, retP_ret, retP_normal, retX_some, retW_ret, retW_normal, retWX_some, resOf_nil, resOf_tmp, resOf_cell, tupleOf_one, tupleOf_two, loadO_new, loadB_some, Nat.reduceEqDiff, Nat.reduceLT, Nat.reduceAdd, Nat.reduceBEq, Int.reduceAdd, Int.reduceSub, Int.reduceLT, Int.reduceLE, Int.reduceEq, Int.reduceNeg, ↓reduceIte, if_true, if_false, Bool.false_eq_true, Bool.not_true, Bool.not_false, List.length_cons, List.length_nil, List.length_singleton, reduceCtorEq, Int.toNat_natCast, decide_true, decide_false, Nat.zero_add, Nat.add_zero, Int.add_sub_cancel, eq_self, not_true_eq_false, not_false_eq_true, hget_push_one, hget_push_lt, hget_push_gt, hget_set_ne, storeA_new, storeB_some, one_int, one_bool, one_string, one_slice, one_pointer, lget_map, gc_int, gc_bool, gc_string, gc_nil_int, gc_int_int, gc_string_int, idxStr_in, len_string, q_s2b, s_s2b, s2b_string, box_agg, fldA_new, loadAgg_new, loadN_some, ltake_zero, ltake_succ, List.drop_zero, List.drop_succ_cons, Option.some.injEq, Prod.mk.injEq, c36l0]) | (refine does_goI_dec (fun _ => ?_) (fun _ => ?_)) | (refine does_goG_dec (fun _ => ?_) (fun _ => ?_)) | (refine does_goI (fun _ => ?_) (fun _ => ?_)) | (refine does_goG (fun _ => ?_) (fun _ => ?_)))
      exact (decide_yes ⟨by omega, by omega, fun j h' => hj j h'⟩).symm
theorem rword_p (w : World) (n : Nat) (s : ByteArray) {h : Heap} {nx p : Nat} (hs : s.size ≤ 140737488351232) : (EN w (n + 1)).pcall 37 [.string s] ⟨h, nx, p⟩ = some (.bool (wordS s), []) := by
  refine pcall_eq rfl rfl (Nat.le_of_ble_eq_true rfl) ?_
  have hsz := size_toList s
  repeat' (first | (simp (disch := first | omega | assumption | exact callP_old _ _ _ _ _ | exact one_int _ _ | exact one_bool _ | exact one_string _ | exact one_slice _ _ _ | exact one_pointer _ | exact hget_push_one _ _ _ _ (by omega) | (simp only [List.length_map, List.length_set, List.length_replicate]; omega) | (rw [hget_push_lt _ _ _ _ (by omega)]; first | assumption | exact hget_push_one _ _ _ _ (by omega))) only [runK_nil, runK_seq, runK_seq_exit, runK_seq_ret, runK_block_normal, runK_block_exit, runK_block_ret, go_skip, go_ret, go_exit, go_seq, go_block, go_ops, goO_nil, goO_cons, goV_some, goO_guard, goG_yes, goG_tf, goG_ft, goG_tuple, goPG_tuple, go_cond, goI_true, goI_false, go_draw, goP_nil, goP_cons, goPV_some, goP_guard, goPG_yes, goPG_tf, goPG_ft, does_some, loopP_normal, loopP_exit, loopP_ret, contE_eq, contR_eq, row0, row1, row2, row3, expand_one, replicate_int, replicate_bool, mkSlice_one, idxS_new, idxA_new, len_slice, hget_set_self, Option.map_some, set_int, set_bool, get_set_eq, get_set_ne, op1_some, op2_some, ret1_some, retP_some, retB_some, push_eq, pickX_true, pickX_false, callR_some, callR_none, callX_some, callY_some, slcSX_some, slcX_some, slcAX_some, s_mov, s_pick, s_alloc, s_box, s_build, s_mkRow, s_load, s_nilChk, s_bin, s_eqB, s_eqNil, s_un, s_convI, s_convS, s_b2s, s_mkSlice, s_slcS, s_slc, s_slcA, s_fldA, s_fldV, s_idxS, s_idxA, s_idxStr, s_idxV, s_ext, s_mkFn, s_mkIf, s_len, s_mm, s_cap, s_eqIf, s_callF, s_callV, s_app, s_store, s_copy, q_mov, q_pick, q_alloc, q_box, q_build, q_mkRow, q_load, q_nilChk, q_bin, q_eqB, q_eqNil, q_un, q_convI, q_convS, q_b2s, q_mkSlice, q_slcS, q_slc, q_slcA, q_fldA, q_fldV, q_idxS, q_idxA, q_idxStr, q_idxV, q_ext, q_mkFn, q_mkIf, q_len, q_mm, q_callF, q_cap, q_eqIf, evs_nil, consO_some, evs_cons, evO_none, mapO_some, evO_some, evParts_nil, consP_some, evParts_cons, hiddenHeap_nil, hiddenHeap_true, hiddenHeap_false, hiddenHeap_all, hpush_nil, ev_tmp, ev_const, fget_cons', fput_nil, fput_cons', fputO_some, fputO_none, elemB_nil, elemB_cons', fkeep_nil, fkeep_cons', args0, slotsL, opdsA, List.cons_append, List.nil_append, List.map_cons, List.map_nil, List.append_nil, Option.toList_some, Option.toList_none, decide_yes, decide_no, b_lss, b_leq, b_gtr, b_geq, b_eql, b_neq, b_add, b_sub, b_mul, b_quo_pos, b_rem_pos, b_seql, b_sneq, wrap64, u_not, u_neg, not_decide', eqB_f, eqB_t, idxNat_in, mm_max, mm_min, convI_int, ext_tuple, lget_zero, lget_succ, loadA_old, aload_old, callP_old, callP_rounds, gcO_some, retE_ret, retE_normal, Value.int.injEq, Value.bool.injEq, Value.string.injEq, true_and, and_true, and_self, retP_ret, retP_normal, retX_some, retW_ret, retW_normal, retWX_some, resOf_nil, resOf_tmp, resOf_cell, tupleOf_one, tupleOf_two, loadO_new, loadB_some, Nat.reduceEqDiff, Nat.reduceLT, Nat.reduceAdd, Nat.reduceBEq, Int.reduceAdd, Int.reduceSub, Int.reduceLT, Int.reduceLE, Int.reduceEq, Int.reduceNeg, ↓reduceIte, if_true, if_false, Bool.false_eq_true, Bool.not_true, Bool.not_false, List.length_cons, List.length_nil, List.length_singleton, reduceCtorEq, Int.toNat_natCast, decide_true, decide_false, Nat.zero_add, Nat.add_zero, Int.add_sub_cancel, eq_self, not_true_eq_false, not_false_eq_true, hget_push_one, hget_push_lt, hget_push_gt, hget_set_ne, storeA_new, storeB_some, one_int, one_bool, one_string, one_slice, one_pointer, lget_map, gc_int, gc_bool, gc_string, gc_nil_int, gc_int_int, gc_string_int, idxStr_in, len_string, q_s2b, s_s2b, s2b_string, box_agg, fldA_new, loadAgg_new, loadN_some, ltake_zero, ltake_succ, List.drop_zero, List.drop_succ_cons, Option.some.injEq, Prod.mk.injEq]) | (refine does_goI_dec (fun _ => ?_) (fun _ => ?_)) | (refine does_goG_dec (fun _ => ?_) (fun _ => ?_)) | (refine does_goI (fun _ => ?_) (fun _ => ?_)) | (refine does_goG (fun _ => ?_) (fun _ => ?_)))
  refine does_while (fun m fr t => ∃ k : Nat, m = s.size - k ∧ k ≤ s.size ∧ fr = [(0, .string s), (3, .int .i64 k)] ∧ t = ⟨h, nx, nx⟩ ∧ ∀ j, j < k → wch s.data.toList[j]! = true) (m := s.size) ?_ ?_ ?_
  · exact ⟨0, by omega, by omega, rfl, rfl, by omega⟩
  · simp (disch := first | omega | assumption | exact callP_old _ _ _ _ _ | exact one_int _ _ | exact one_bool _ | exact one_string _ | exact one_slice _ _ _ | exact one_pointer _ | exact hget_push_one _ _ _ _ (by omega) | (simp only [List.length_map, List.length_set, List.length_replicate]; omega) | (rw [hget_push_lt _ _ _ _ (by omega)]; first | assumption | exact hget_push_one _ _ _ _ (by omega))) only [runK_nil, runK_seq, runK_seq_exit, runK_seq_ret, runK_block_normal, runK_block_exit, runK_block_ret, go_skip, go_ret, go_exit, go_seq, go_block, go_ops, goO_nil, goO_cons, goV_some, goO_guard, goG_yes, goG_tf, goG_ft, goG_tuple, goPG_tuple, go_cond, goI_true, goI_false, go_draw, goP_nil, goP_cons, goPV_some, goP_guard, goPG_yes, goPG_tf, goPG_ft, does_some, loopP_normal, loopP_exit, loopP_ret, contE_eq, contR_eq, row0, row1, row2, row3, expand_one, replicate_int, replicate_bool, mkSlice_one, idxS_new, idxA_new, len_slice, hget_set_self, Option.map_some, set_int, set_bool, get_set_eq, get_set_ne, op1_some, op2_some, ret1_some, retP_some, retB_some, push_eq, pickX_true, pickX_false, callR_some, callR_none, callX_some, callY_some, slcSX_some, slcX_some, slcAX_some, s_mov, s_pick, s_alloc, s_box, s_build, s_mkRow, s_load, s_nilChk, s_bin, s_eqB, s_eqNil, s_un, s_convI, s_convS, s_b2s, s_mkSlice, s_slcS, s_slc, s_slcA, s_fldA, s_fldV, s_idxS, s_idxA, s_idxStr, s_idxV, s_ext, s_mkFn, s_mkIf, s_len, s_mm, s_cap, s_eqIf, s_callF, s_callV, s_app, s_store, s_copy, q_mov, q_pick, q_alloc, q_box, q_build, q_mkRow, q_load, q_nilChk, q_bin, q_eqB, q_eqNil, q_un, q_convI, q_convS, q_b2s, q_mkSlice, q_slcS, q_slc, q_slcA, q_fldA, q_fldV, q_idxS, q_idxA, q_idxStr, q_idxV, q_ext, q_mkFn, q_mkIf, q_len, q_mm, q_callF, q_cap, q_eqIf, evs_nil, consO_some, evs_cons, evO_none, mapO_some, evO_some, evParts_nil, consP_some, evParts_cons, hiddenHeap_nil, hiddenHeap_true, hiddenHeap_false, hiddenHeap_all, hpush_nil, ev_tmp, ev_const, fget_cons', fput_nil, fput_cons', fputO_some, fputO_none, elemB_nil, elemB_cons', fkeep_nil, fkeep_cons', args0, slotsL, opdsA, List.cons_append, List.nil_append, List.map_cons, List.map_nil, List.append_nil, Option.toList_some, Option.toList_none, decide_yes, decide_no, b_lss, b_leq, b_gtr, b_geq, b_eql, b_neq, b_add, b_sub, b_mul, b_quo_pos, b_rem_pos, b_seql, b_sneq, wrap64, u_not, u_neg, not_decide', eqB_f, eqB_t, idxNat_in, mm_max, mm_min, convI_int, ext_tuple, lget_zero, lget_succ, loadA_old, aload_old, callP_old, callP_rounds, gcO_some, retE_ret, retE_normal, Value.int.injEq, Value.bool.injEq, Value.string.injEq, true_and, and_true, and_self, retP_ret, retP_normal, retX_some, retW_ret, retW_normal, retWX_some, resOf_nil, resOf_tmp, resOf_cell, tupleOf_one, tupleOf_two, loadO_new, loadB_some, Nat.reduceEqDiff, Nat.reduceLT, Nat.reduceAdd, Nat.reduceBEq, Int.reduceAdd, Int.reduceSub, Int.reduceLT, Int.reduceLE, Int.reduceEq, Int.reduceNeg, ↓reduceIte, if_true, if_false, Bool.false_eq_true, Bool.not_true, Bool.not_false, List.length_cons, List.length_nil, List.length_singleton, reduceCtorEq, Int.toNat_natCast, decide_true, decide_false, Nat.zero_add, Nat.add_zero, Int.add_sub_cancel, eq_self, not_true_eq_false, not_false_eq_true, hget_push_one, hget_push_lt, hget_push_gt, hget_set_ne, storeA_new, storeB_some, one_int, one_bool, one_string, one_slice, one_pointer, lget_map, gc_int, gc_bool, gc_string, gc_nil_int, gc_int_int, gc_string_int, idxStr_in, len_string, q_s2b, s_s2b, s2b_string, box_agg, fldA_new, loadAgg_new, loadN_some, ltake_zero, ltake_succ, List.drop_zero, List.drop_succ_cons, Option.some.injEq, Prod.mk.injEq]
    unfold many; omega
  · rintro m fr t ⟨k, rfl, hk, rfl, rfl, hj⟩
    by_cases hlt : k < s.size
    · have hlt' : k < s.data.toList.length := by omega
      repeat' (first | (simp (disch := first | omega | assumption | exact callP_old _ _ _ _ _ | exact one_int _ _ | exact one_bool _ | exact one_string _ | exact one_slice _ _ _ | exact one_pointer _ | exact hget_push_one _ _ _ _ (by omega) | (simp only [List.length_map, List.length_set, List.length_replicate]; omega) | (rw [hget_push_lt _ _ _ _ (by omega)]; first | assumption | exact hget_push_one _ _ _ _ (by omega))) only [runK_nil, runK_seq, runK_seq_exit, runK_seq_ret, runK_block_normal, runK_block_exit, runK_block_ret, go_skip, go_ret, go_exit, go_seq, go_block, go_ops, goO_nil, goO_cons, goV_some, goO_guard, goG_yes, goG_tf, goG_ft, goG_tuple, goPG_tuple, go_cond, goI_true, goI_false, go_draw, goP_nil, goP_cons, goPV_some, goP_guard, goPG_yes, goPG_tf, goPG_ft, does_some, loopP_normal, loopP_exit, loopP_ret, contE_eq, contR_eq, row0, row1, row2, row3, expand_one, replicate_int, replicate_bool, mkSlice_one, idxS_new, idxA_new, len_slice, hget_set_self, Option.map_some, set_int, set_bool, get_set_eq, get_set_ne, op1_some, op2_some, ret1_some, retP_some, retB_some, push_eq, pickX_true, pickX_false, callR_some, callR_none, callX_some, callY_some, slcSX_some, slcX_some, slcAX_some, s_mov, s_pick, s_alloc, s_box, s_build, s_mkRow, s_load, s_nilChk, s_bin, s_eqB, s_eqNil, s_un, s_convI, s_convS, s_b2s, s_mkSlice, s_slcS, s_slc, s_slcA, s_fldA, s_fldV, s_idxS, s_idxA, s_idxStr, s_idxV, s_ext, s_mkFn, s_mkIf, s_len, s_mm, s_cap, s_eqIf, s_callF, s_callV, s_app, s_store, s_copy, q_mov, q_pick, q_alloc, q_box, q_build, q_mkRow, q_load, q_nilChk, q_bin, q_eqB, q_eqNil, q_un, q_convI, q_convS, q_b2s, q_mkSlice, q_slcS, q_slc, q_slcA, q_fldA, q_fldV, q_idxS, q_idxA, q_idxStr, q_idxV, q_ext, q_mkFn, q_mkIf, q_len, q_mm, q_callF, q_cap, q_eqIf, evs_nil, consO_some, evs_cons, evO_none, mapO_some, evO_some, evParts_nil, consP_some, evParts_cons, hiddenHeap_nil, hiddenHeap_true, hiddenHeap_false, hiddenHeap_all, hpush_nil, ev_tmp, ev_const, fget_cons', fput_nil, fput_cons', fputO_some, fputO_none, elemB_nil, elemB_cons', fkeep_nil, fkeep_cons', args0, slotsL, opdsA, List.cons_append, List.nil_append, List.map_cons, List.map_nil, List.append_nil, Option.toList_some, Option.toList_none, decide_yes, decide_no, b_lss, b_leq, b_gtr, b_geq, b_eql, b_neq, b_add, b_sub, b_mul, b_quo_pos, b_rem_pos, b_seql, b_sneq, wrap64, u_not, u_neg, not_decide', eqB_f, eqB_t, idxNat_in, mm_max, mm_min, convI_int, ext_tuple, lget_zero, lget_succ, loadA_old, aload_old, callP_old, callP_rounds, gcO_some, retE_ret, retE_normal, Value.int.injEq, Value.bool.injEq, Value.string.injEq, true_and, and_true, and_self, retP_ret, retP_normal, retX_some, retW_ret, retW_normal, retWX_some, resOf_nil, resOf_tmp, resOf_cell, tupleOf_one, tupleOf_two, loadO_new, loadB_some, Nat.reduceEqDiff, Nat.reduceLT, Nat.reduceAdd, Nat.reduceBEq, Int.reduceAdd, Int.reduceSub, Int.reduceLT, Int.reduceLE, Int.reduceEq, Int.reduceNeg, ↓reduceIte, if_true, if_false, Bool.false_eq_true, Bool.not_true, Bool.not_false, List.length_cons, List.length_nil, List.length_singleton, reduceCtorEq, Int.toNat_natCast, decide_true, decide_false, Nat.zero_add, Nat.add_zero, Int.add_sub_cancel, eq_self, not_true_eq_false, not_false_eq_true, hget_push_one, hget_push_lt, hget_push_gt, hget_set_ne, storeA_new, storeB_some, one_int, one_bool, one_string, one_slice, one_pointer, lget_map, gc_int, gc_bool, gc_string, gc_nil_int, gc_int_int, gc_string_int, idxStr_in, len_string, q_s2b, s_s2b, s2b_string, box_agg, fldA_new, loadAgg_new, loadN_some, ltake_zero, ltake_succ, List.drop_zero, List.drop_succ_cons, Option.some.injEq, Prod.mk.injEq, c37l0, vB]) | (refine does_goI_dec (fun _ => ?_) (fun _ => ?_)) | (refine does_goG_dec (fun _ => ?_) (fun _ => ?_)) | (refine does_goI (fun _ => ?_) (fun _ => ?_)) | (refine does_goG (fun _ => ?_) (fun _ => ?_)))
      all_goals first
        | (refine (decide_no fun ⟨_, _, h3⟩ => ?_).symm
           have := of_decide_eq_true (h3 k hlt)
           omega)
        | (refine ⟨_, ?_, k + 1, rfl, hlt, by simp, lt_succ_cases hj (decide_yes (by omega))⟩
           omega)
    · have : k = s.size := by omega
      subst this
      by_cases h1 : (1 : Int) ≤ s.size <;> by_cases h2 : (s.size : Int) ≤ 40
      all_goals
        repeat' (first | (simp (disch := first | omega | assumption | exact callP_old _ _ _ _ _ | exact one_int _ _ | exact one_bool _ | exact one_string _ | exact one_slice _ _ _ | exact one_pointer _ | exact hget_push_one _ _ _ _ (by omega) | (simp only [List.length_map, List.length_set, List.length_replicate]; omega) | (rw [hget_push_lt _ _ _ _ (by omega)]; first | assumption | exact hget_push_one _ _ _ _ (by omega))) only [runK_nil, runK_seq, runK_seq_exit, runK_seq_ret, runK_block_normal, runK_block_exit, runK_block_ret, go_skip, go_ret, go_exit, go_seq, go_block, go_ops, goO_nil, goO_cons, goV_some, goO_guard, goG_yes, goG_tf, goG_ft, goG_tuple, goPG_tuple, go_cond, goI_true, goI_false, go_draw, goP_nil, goP_cons, goPV_some, goP_guard, goPG_yes, goPG_tf, goPG_ft, does_some, loopP_normal, loopP_exit, loopP_ret, contE_eq, contR_eq, row0, row1, row2, row3, expand_one, replicate_int, replicate_bool, mkSlice_one, idxS_new, idxA_new, len_slice, hget_set_self, Option.map_some, set_int, set_bool, get_set_eq, get_set_ne, op1_some, op2_some, ret1_some, retP_some, retB_some, push_eq, pickX_true, pickX_false, callR_some, callR_none, callX_some, callY_some, slcSX_some, slcX_some, slcAX_some, s_mov, s_pick, s_alloc, s_box, s_build, s_mkRow, s_load, s_nilChk, s_bin, s_eqB, s_eqNil, s_un, s_convI, s_convS, s_b2s, s_mkSlice, s_slcS, s_slc, s_slcA, s_fldA, s_fldV, s_idxS, s_idxA, s_idxStr, s_idxV, s_ext, s_mkFn, s_mkIf, s_len, s_mm, s_cap, s_eqIf, s_callF, s_callV, s_app, s_store, s_copy, q_mov, q_pick, q_alloc, q_box, q_build, q_mkRow, q_load, q_nilChk, q_bin, q_eqB, q_eqNil, q_un, q_convI, q_convS, q_b2s, q_mkSlice, q_slcS, q_slc, q_slcA, q_fldA, q_fldV, q_idxS, q_idxA, q_idxStr, q_idxV, q_ext, q_mkFn, q_mkIf, q_len, q_mm, q_callF, q_cap, q_eqIf, evs_nil, consO_some, evs_cons, evO_none, mapO_some, evO_some, evParts_nil, consP_some, evParts_cons, hiddenHeap_nil, hiddenHeap_true, hiddenHeap_false, hiddenHeap_all, hpush_nil, ev_tmp, ev_const, fget_cons', fput_nil, fput_cons', fputO_some, fputO_none, elemB_nil, elemB_cons', fkeep_nil, fkeep_cons', args0, slotsL, opdsA, List.cons_append, List.nil_append, List.map_cons, List.map_nil, List.append_nil, Option.toList_some, Option.toList_none, decide_yes, decide_no, b_lss, b_leq, b_gtr, b_geq, b_eql, b_neq, b_add, b_sub, b_mul, b_quo_pos, b_rem_pos, b_seql, b_sneq, wrap64, u_not, u_neg, not_decide', eqB_f, eqB_t, idxNat_in, mm_max, mm_min, convI_int, ext_tuple, lget_zero, lget_succ, loadA_old, aload_old, callP_old, callP_rounds, gcO_some, retE_ret, retE_normal, Value.int.injEq, Value.bool.injEq, Value.string.injEq, true_and, and_true, and_self, retP_ret, retP_normal, retX_some, retW_ret, retW_normal, retWX_some, resOf_nil, resOf_tmp, resOf_cell, tupleOf_one, tupleOf_two, loadO_new, loadB_some, Nat.reduceEqDiff, Nat.reduceLT, Nat.reduceAdd, Nat.reduceBEq, Int.reduceAdd, Int.reduceSub, Int.reduceLT, Int.reduceLE, Int.reduceEq, Int.reduceNeg, ↓reduceIte, if_true, if_false, Bool.false_eq_true, Bool.not_true, Bool.not_false, List.length_cons, List.length_nil, List.length_singleton, reduceCtorEq, Int.toNat_natCast, decide_true, decide_false, Nat.zero_add, Nat.add_zero, Int.add_sub_cancel, eq_self, not_true_eq_false, not_false_eq_true, hget_push_one, hget_push_lt, hget_push_gt, hget_set_ne, storeA_new, storeB_some, one_int, one_bool, one_string, one_slice, one_pointer, lget_map, gc_int, gc_bool, gc_string, gc_nil_int, gc_int_int, gc_string_int, idxStr_in, len_string, q_s2b, s_s2b, s2b_string, box_agg, fldA_new, loadAgg_new, loadN_some, ltake_zero, ltake_succ, List.drop_zero, List.drop_succ_cons, Option.some.injEq, Prod.mk.injEq, c37l0]) | (refine does_goI_dec (fun _ => ?_) (fun _ => ?_)) | (refine does_goG_dec (fun _ => ?_) (fun _ => ?_)) | (refine does_goI (fun _ => ?_) (fun _ => ?_)) | (refine does_goG (fun _ => ?_) (fun _ => ?_)))
      · exact (decide_yes ⟨by omega, by omega, fun j h' => hj j h'⟩).symm
      all_goals
        refine (Bool.eq_false_iff.2 fun hh => ?_).symm
        have := of_decide_eq_true hh
        omega

/-! ### places in lists of strings -/
theorem index_p (w : World) (n : Nat) {v : Value} {l : List ByteArray} {h : Heap} {nx p : Nat} (hr : Rd (oldOf w) h Value.string v l) (hm : l.length ≤ 140737488351232) (x : ByteArray) :
    (EN w (n + 1)).pcall 23 [v, .string x] ⟨h, nx, p⟩ = some (.int .i64 (placeG l x l.length), []) := by
  refine pcall_eq rfl rfl (Nat.le_of_ble_eq_true rfl) ?_
  repeat' (first | (simp (disch := first | omega | assumption | exact callP_old _ _ _ _ _ | exact one_int _ _ | exact one_bool _ | exact one_string _ | exact one_slice _ _ _ | exact one_pointer _ | exact hget_push_one _ _ _ _ (by omega) | (simp only [List.length_map, List.length_set, List.length_replicate]; omega) | (rw [hget_push_lt _ _ _ _ (by omega)]; first | assumption | exact hget_push_one _ _ _ _ (by omega))) only [runK_nil, runK_seq, runK_seq_exit, runK_seq_ret, runK_block_normal, runK_block_exit, runK_block_ret, go_skip, go_ret, go_exit, go_seq, go_block, go_ops, goO_nil, goO_cons, goV_some, goO_guard, goG_yes, goG_tf, goG_ft, goG_tuple, goPG_tuple, go_cond, goI_true, goI_false, go_draw, goP_nil, goP_cons, goPV_some, goP_guard, goPG_yes, goPG_tf, goPG_ft, does_some, loopP_normal, loopP_exit, loopP_ret, contE_eq, contR_eq, row0, row1, row2, row3, expand_one, replicate_int, replicate_bool, mkSlice_one, idxS_new, idxA_new, len_slice, hget_set_self, Option.map_some, set_int, set_bool, get_set_eq, get_set_ne, op1_some, op2_some, ret1_some, retP_some, retB_some, push_eq, pickX_true, pickX_false, callR_some, callR_none, callX_some, callY_some, slcSX_some, slcX_some, slcAX_some, s_mov, s_pick, s_alloc, s_box, s_build, s_mkRow, s_load, s_nilChk, s_bin, s_eqB, s_eqNil, s_un, s_convI, s_convS, s_b2s, s_mkSlice, s_slcS, s_slc, s_slcA, s_fldA, s_fldV, s_idxS, s_idxA, s_idxStr, s_idxV, s_ext, s_mkFn, s_mkIf, s_len, s_mm, s_cap, s_eqIf, s_callF, s_callV, s_app, s_store, s_copy, q_mov, q_pick, q_alloc, q_box, q_build, q_mkRow, q_load, q_nilChk, q_bin, q_eqB, q_eqNil, q_un, q_convI, q_convS, q_b2s, q_mkSlice, q_slcS, q_slc, q_slcA, q_fldA, q_fldV, q_idxS, q_idxA, q_idxStr, q_idxV, q_ext, q_mkFn, q_mkIf, q_len, q_mm, q_callF, q_cap, q_eqIf, evs_nil, consO_some, evs_cons, evO_none, mapO_some, evO_some, evParts_nil, consP_some, evParts_cons, hiddenHeap_nil, hiddenHeap_true, hiddenHeap_false, hiddenHeap_all, hpush_nil, ev_tmp, ev_const, fget_cons', fput_nil, fput_cons', fputO_some, fputO_none, elemB_nil, elemB_cons', fkeep_nil, fkeep_cons', args0, slotsL, opdsA, List.cons_append, List.nil_append, List.map_cons, List.map_nil, List.append_nil, Option.toList_some, Option.toList_none, decide_yes, decide_no, b_lss, b_leq, b_gtr, b_geq, b_eql, b_neq, b_add, b_sub, b_mul, b_quo_pos, b_rem_pos, b_seql, b_sneq, wrap64, u_not, u_neg, not_decide', eqB_f, eqB_t, idxNat_in, mm_max, mm_min, convI_int, ext_tuple, lget_zero, lget_succ, loadA_old, aload_old, callP_old, callP_rounds, gcO_some, retE_ret, retE_normal, Value.int.injEq, Value.bool.injEq, Value.string.injEq, true_and, and_true, and_self, retP_ret, retP_normal, retX_some, retW_ret, retW_normal, retWX_some, resOf_nil, resOf_tmp, resOf_cell, tupleOf_one, tupleOf_two, loadO_new, loadB_some, Nat.reduceEqDiff, Nat.reduceLT, Nat.reduceAdd, Nat.reduceBEq, Int.reduceAdd, Int.reduceSub, Int.reduceLT, Int.reduceLE, Int.reduceEq, Int.reduceNeg, ↓reduceIte, if_true, if_false, Bool.false_eq_true, Bool.not_true, Bool.not_false, List.length_cons, List.length_nil, List.length_singleton, reduceCtorEq, Int.toNat_natCast, decide_true, decide_false, Nat.zero_add, Nat.add_zero, Int.add_sub_cancel, eq_self, not_true_eq_false, not_false_eq_true, hget_push_one, hget_push_lt, hget_push_gt, hget_set_ne, storeA_new, storeB_some, one_int, one_bool, one_string, one_slice, one_pointer, lget_map, gc_int, gc_bool, gc_string, gc_nil_int, gc_int_int, gc_string_int, idxStr_in, len_string, q_s2b, s_s2b, s2b_string, box_agg, fldA_new, loadAgg_new, loadN_some, ltake_zero, ltake_succ, List.drop_zero, List.drop_succ_cons, Option.some.injEq, Prod.mk.injEq, hr.len]) | (refine does_goI_dec (fun _ => ?_) (fun _ => ?_)) | (refine does_goG_dec (fun _ => ?_) (fun _ => ?_)) | (refine does_goI (fun _ => ?_) (fun _ => ?_)) | (refine does_goG (fun _ => ?_) (fun _ => ?_)))
  refine does_while (fun m fr t => ∃ k : Nat, m = l.length - k ∧ k ≤ l.length ∧ fr = [(1, .string x), (7, v), (8, .int .i64 l.length), (9, .int .i64 k)] ∧ t = ⟨h, nx, nx⟩ ∧ ∀ j, j < k → ¬ l[j]! = x) (m := l.length) ?_ ?_ ?_
  · exact ⟨0, by omega, by omega, rfl, rfl, by omega⟩
  · simp (disch := first | omega | assumption | exact callP_old _ _ _ _ _ | exact one_int _ _ | exact one_bool _ | exact one_string _ | exact one_slice _ _ _ | exact one_pointer _ | exact hget_push_one _ _ _ _ (by omega) | (simp only [List.length_map, List.length_set, List.length_replicate]; omega) | (rw [hget_push_lt _ _ _ _ (by omega)]; first | assumption | exact hget_push_one _ _ _ _ (by omega))) only [runK_nil, runK_seq, runK_seq_exit, runK_seq_ret, runK_block_normal, runK_block_exit, runK_block_ret, go_skip, go_ret, go_exit, go_seq, go_block, go_ops, goO_nil, goO_cons, goV_some, goO_guard, goG_yes, goG_tf, goG_ft, goG_tuple, goPG_tuple, go_cond, goI_true, goI_false, go_draw, goP_nil, goP_cons, goPV_some, goP_guard, goPG_yes, goPG_tf, goPG_ft, does_some, loopP_normal, loopP_exit, loopP_ret, contE_eq, contR_eq, row0, row1, row2, row3, expand_one, replicate_int, replicate_bool, mkSlice_one, idxS_new, idxA_new, len_slice, hget_set_self, Option.map_some, set_int, set_bool, get_set_eq, get_set_ne, op1_some, op2_some, ret1_some, retP_some, retB_some, push_eq, pickX_true, pickX_false, callR_some, callR_none, callX_some, callY_some, slcSX_some, slcX_some, slcAX_some, s_mov, s_pick, s_alloc, s_box, s_build, s_mkRow, s_load, s_nilChk, s_bin, s_eqB, s_eqNil, s_un, s_convI, s_convS, s_b2s, s_mkSlice, s_slcS, s_slc, s_slcA, s_fldA, s_fldV, s_idxS, s_idxA, s_idxStr, s_idxV, s_ext, s_mkFn, s_mkIf, s_len, s_mm, s_cap, s_eqIf, s_callF, s_callV, s_app, s_store, s_copy, q_mov, q_pick, q_alloc, q_box, q_build, q_mkRow, q_load, q_nilChk, q_bin, q_eqB, q_eqNil, q_un, q_convI, q_convS, q_b2s, q_mkSlice, q_slcS, q_slc, q_slcA, q_fldA, q_fldV, q_idxS, q_idxA, q_idxStr, q_idxV, q_ext, q_mkFn, q_mkIf, q_len, q_mm, q_callF, q_cap, q_eqIf, evs_nil, consO_some, evs_cons, evO_none, mapO_some, evO_some, evParts_nil, consP_some, evParts_cons, hiddenHeap_nil, hiddenHeap_true, hiddenHeap_false, hiddenHeap_all, hpush_nil, ev_tmp, ev_const, fget_cons', fput_nil, fput_cons', fputO_some, fputO_none, elemB_nil, elemB_cons', fkeep_nil, fkeep_cons', args0, slotsL, opdsA, List.cons_append, List.nil_append, List.map_cons, List.map_nil, List.append_nil, Option.toList_some, Option.toList_none, decide_yes, decide_no, b_lss, b_leq, b_gtr, b_geq, b_eql, b_neq, b_add, b_sub, b_mul, b_quo_pos, b_rem_pos, b_seql, b_sneq, wrap64, u_not, u_neg, not_decide', eqB_f, eqB_t, idxNat_in, mm_max, mm_min, convI_int, ext_tuple, lget_zero, lget_succ, loadA_old, aload_old, callP_old, callP_rounds, gcO_some, retE_ret, retE_normal, Value.int.injEq, Value.bool.injEq, Value.string.injEq, true_and, and_true, and_self, retP_ret, retP_normal, retX_some, retW_ret, retW_normal, retWX_some, resOf_nil, resOf_tmp, resOf_cell, tupleOf_one, tupleOf_two, loadO_new, loadB_some, Nat.reduceEqDiff, Nat.reduceLT, Nat.reduceAdd, Nat.reduceBEq, Int.reduceAdd, Int.reduceSub, Int.reduceLT, Int.reduceLE, Int.reduceEq, Int.reduceNeg, ↓reduceIte, if_true, if_false, Bool.false_eq_true, Bool.not_true, Bool.not_false, List.length_cons, List.length_nil, List.length_singleton, reduceCtorEq, Int.toNat_natCast, decide_true, decide_false, Nat.zero_add, Nat.add_zero, Int.add_sub_cancel, eq_self, not_true_eq_false, not_false_eq_true, hget_push_one, hget_push_lt, hget_push_gt, hget_set_ne, storeA_new, storeB_some, one_int, one_bool, one_string, one_slice, one_pointer, lget_map, gc_int, gc_bool, gc_string, gc_nil_int, gc_int_int, gc_string_int, idxStr_in, len_string, q_s2b, s_s2b, s2b_string, box_agg, fldA_new, loadAgg_new, loadN_some, ltake_zero, ltake_succ, List.drop_zero, List.drop_succ_cons, Option.some.injEq, Prod.mk.injEq]
    unfold many; omega
  · rintro m fr t ⟨k, rfl, hk, rfl, rfl, hj⟩
    by_cases hlt : k < l.length
    · by_cases hx : x = l[k]!
      · repeat' (first | (simp (disch := first | omega | assumption | exact callP_old _ _ _ _ _ | exact one_int _ _ | exact one_bool _ | exact one_string _ | exact one_slice _ _ _ | exact one_pointer _ | exact hget_push_one _ _ _ _ (by omega) | (simp only [List.length_map, List.length_set, List.length_replicate]; omega) | (rw [hget_push_lt _ _ _ _ (by omega)]; first | assumption | exact hget_push_one _ _ _ _ (by omega))) only [runK_nil, runK_seq, runK_seq_exit, runK_seq_ret, runK_block_normal, runK_block_exit, runK_block_ret, go_skip, go_ret, go_exit, go_seq, go_block, go_ops, goO_nil, goO_cons, goV_some, goO_guard, goG_yes, goG_tf, goG_ft, goG_tuple, goPG_tuple, go_cond, goI_true, goI_false, go_draw, goP_nil, goP_cons, goPV_some, goP_guard, goPG_yes, goPG_tf, goPG_ft, does_some, loopP_normal, loopP_exit, loopP_ret, contE_eq, contR_eq, row0, row1, row2, row3, expand_one, replicate_int, replicate_bool, mkSlice_one, idxS_new, idxA_new, len_slice, hget_set_self, Option.map_some, set_int, set_bool, get_set_eq, get_set_ne, op1_some, op2_some, ret1_some, retP_some, retB_some, push_eq, pickX_true, pickX_false, callR_some, callR_none, callX_some, callY_some, slcSX_some, slcX_some, slcAX_some, s_mov, s_pick, s_alloc, s_box, s_build, s_mkRow, s_load, s_nilChk, s_bin, s_eqB, s_eqNil, s_un, s_convI, s_convS, s_b2s, s_mkSlice, s_slcS, s_slc, s_slcA, s_fldA, s_fldV, s_idxS, s_idxA, s_idxStr, s_idxV, s_ext, s_mkFn, s_mkIf, s_len, s_mm, s_cap, s_eqIf, s_callF, s_callV, s_app, s_store, s_copy, q_mov, q_pick, q_alloc, q_box, q_build, q_mkRow, q_load, q_nilChk, q_bin, q_eqB, q_eqNil, q_un, q_convI, q_convS, q_b2s, q_mkSlice, q_slcS, q_slc, q_slcA, q_fldA, q_fldV, q_idxS, q_idxA, q_idxStr, q_idxV, q_ext, q_mkFn, q_mkIf, q_len, q_mm, q_callF, q_cap, q_eqIf, evs_nil, consO_some, evs_cons, evO_none, mapO_some, evO_some, evParts_nil, consP_some, evParts_cons, hiddenHeap_nil, hiddenHeap_true, hiddenHeap_false, hiddenHeap_all, hpush_nil, ev_tmp, ev_const, fget_cons', fput_nil, fput_cons', fputO_some, fputO_none, elemB_nil, elemB_cons', fkeep_nil, fkeep_cons', args0, slotsL, opdsA, List.cons_append, List.nil_append, List.map_cons, List.map_nil, List.append_nil, Option.toList_some, Option.toList_none, decide_yes, decide_no, b_lss, b_leq, b_gtr, b_geq, b_eql, b_neq, b_add, b_sub, b_mul, b_quo_pos, b_rem_pos, b_seql, b_sneq, wrap64, u_not, u_neg, not_decide', eqB_f, eqB_t, idxNat_in, mm_max, mm_min, convI_int, ext_tuple, lget_zero, lget_succ, loadA_old, aload_old, callP_old, callP_rounds, gcO_some, retE_ret, retE_normal, Value.int.injEq, Value.bool.injEq, Value.string.injEq, true_and, and_true, and_self, retP_ret, retP_normal, retX_some, retW_ret, retW_normal, retWX_some, resOf_nil, resOf_tmp, resOf_cell, tupleOf_one, tupleOf_two, loadO_new, loadB_some, Nat.reduceEqDiff, Nat.reduceLT, Nat.reduceAdd, Nat.reduceBEq, Int.reduceAdd, Int.reduceSub, Int.reduceLT, Int.reduceLE, Int.reduceEq, Int.reduceNeg, ↓reduceIte, if_true, if_false, Bool.false_eq_true, Bool.not_true, Bool.not_false, List.length_cons, List.length_nil, List.length_singleton, reduceCtorEq, Int.toNat_natCast, decide_true, decide_false, Nat.zero_add, Nat.add_zero, Int.add_sub_cancel, eq_self, not_true_eq_false, not_false_eq_true, hget_push_one, hget_push_lt, hget_push_gt, hget_set_ne, storeA_new, storeB_some, one_int, one_bool, one_string, one_slice, one_pointer, lget_map, gc_int, gc_bool, gc_string, gc_nil_int, gc_int_int, gc_string_int, idxStr_in, len_string, q_s2b, s_s2b, s2b_string, box_agg, fldA_new, loadAgg_new, loadN_some, ltake_zero, ltake_succ, List.drop_zero, List.drop_succ_cons, Option.some.injEq, Prod.mk.injEq, c23l0, hr.idx, hr.load]) | (refine does_goI_dec (fun _ => ?_) (fun _ => ?_)) | (refine does_goG_dec (fun _ => ?_) (fun _ => ?_)) | (refine does_goI (fun _ => ?_) (fun _ => ?_)) | (refine does_goG (fun _ => ?_) (fun _ => ?_)))
        rw [placeG_some hx.symm hj l.length hlt]
      · repeat' (first | (simp (disch := first | omega | assumption | exact callP_old _ _ _ _ _ | exact one_int _ _ | exact one_bool _ | exact one_string _ | exact one_slice _ _ _ | exact one_pointer _ | exact hget_push_one _ _ _ _ (by omega) | (simp only [List.length_map, List.length_set, List.length_replicate]; omega) | (rw [hget_push_lt _ _ _ _ (by omega)]; first | assumption | exact hget_push_one _ _ _ _ (by omega))) only [runK_nil, runK_seq, runK_seq_exit, runK_seq_ret, runK_block_normal, runK_block_exit, runK_block_ret, go_skip, go_ret, go_exit, go_seq, go_block, go_ops, goO_nil, goO_cons, goV_some, goO_guard, goG_yes, goG_tf, goG_ft, goG_tuple, goPG_tuple, go_cond, goI_true, goI_false, go_draw, goP_nil, goP_cons, goPV_some, goP_guard, goPG_yes, goPG_tf, goPG_ft, does_some, loopP_normal, loopP_exit, loopP_ret, contE_eq, contR_eq, row0, row1, row2, row3, expand_one, replicate_int, replicate_bool, mkSlice_one, idxS_new, idxA_new, len_slice, hget_set_self, Option.map_some, set_int, set_bool, get_set_eq, get_set_ne, op1_some, op2_some, ret1_some, retP_some, retB_some, push_eq, pickX_true, pickX_false, callR_some, callR_none, callX_some, callY_some, slcSX_some, slcX_some, slcAX_some, s_mov, s_pick, s_alloc, s_box, s_build, s_mkRow, s_load, s_nilChk, s_bin, s_eqB, s_eqNil, s_un, s_convI, s_convS, s_b2s, s_mkSlice, s_slcS, s_slc, s_slcA, s_fldA, s_fldV, s_idxS, s_idxA, s_idxStr, s_idxV, s_ext, s_mkFn, s_mkIf, s_len, s_mm, s_cap, s_eqIf, s_callF, s_callV, s_app, s_store, s_copy, q_mov, q_pick, q_alloc, q_box, q_build, q_mkRow, q_load, q_nilChk, q_bin, q_eqB, q_eqNil, q_un, q_convI, q_convS, q_b2s, q_mkSlice, q_slcS, q_slc, q_slcA, q_fldA, q_fldV, q_idxS, q_idxA, q_idxStr, q_idxV, q_ext, q_mkFn, q_mkIf, q_len, q_mm, q_callF, q_cap, q_eqIf, evs_nil, consO_some, evs_cons, evO_none, mapO_some, evO_some, evParts_nil, consP_some, evParts_cons, hiddenHeap_nil, hiddenHeap_true, hiddenHeap_false, hiddenHeap_all, hpush_nil, ev_tmp, ev_const, fget_cons', fput_nil, fput_cons', fputO_some, fputO_none, elemB_nil, elemB_cons', fkeep_nil, fkeep_cons', args0, slotsL, opdsA, List.cons_append, List.nil_append, List.map_cons, List.map_nil, List.append_nil, Option.toList_some, Option.toList_none, decide_yes, decide_no, b_lss, b_leq, b_gtr, b_geq, b_eql, b_neq, b_add, b_sub, b_mul, b_quo_pos, b_rem_pos, b_seql, b_sneq, wrap64, u_not, u_neg, not_decide', eqB_f, eqB_t, idxNat_in, mm_max, mm_min, convI_int, ext_tuple, lget_zero, lget_succ, loadA_old, aload_old, callP_old, callP_rounds, gcO_some, retE_ret, retE_normal, Value.int.injEq, Value.bool.injEq, Value.string.injEq, true_and, and_true, and_self, retP_ret, retP_normal, retX_some, retW_ret, retW_normal, retWX_some, resOf_nil, resOf_tmp, resOf_cell, tupleOf_one, tupleOf_two, loadO_new, loadB_some, Nat.reduceEqDiff, Nat.reduceLT, Nat.reduceAdd, Nat.reduceBEq, Int.reduceAdd, Int.reduceSub, Int.reduceLT, Int.reduceLE, Int.reduceEq, Int.reduceNeg, ↓reduceIte, if_true, if_false, Bool.false_eq_true, Bool.not_true, Bool.not_false, List.length_cons, List.length_nil, List.length_singleton, reduceCtorEq, Int.toNat_natCast, decide_true, decide_false, Nat.zero_add, Nat.add_zero, Int.add_sub_cancel, eq_self, not_true_eq_false, not_false_eq_true, hget_push_one, hget_push_lt, hget_push_gt, hget_set_ne, storeA_new, storeB_some, one_int, one_bool, one_string, one_slice, one_pointer, lget_map, gc_int, gc_bool, gc_string, gc_nil_int, gc_int_int, gc_string_int, idxStr_in, len_string, q_s2b, s_s2b, s2b_string, box_agg, fldA_new, loadAgg_new, loadN_some, ltake_zero, ltake_succ, List.drop_zero, List.drop_succ_cons, Option.some.injEq, Prod.mk.injEq, c23l0, hr.idx, hr.load]) | (refine does_goI_dec (fun _ => ?_) (fun _ => ?_)) | (refine does_goG_dec (fun _ => ?_) (fun _ => ?_)) | (refine does_goI (fun _ => ?_) (fun _ => ?_)) | (refine does_goG (fun _ => ?_) (fun _ => ?_)))
        refine ⟨_, ?_, k + 1, rfl, hlt, by simp, lt_succ_cases hj fun e => hx e.symm⟩
        omega
    · have : k = l.length := by omega
      subst this
      repeat' (first | (simp (disch := first | omega | assumption | exact callP_old _ _ _ _ _ | exact one_int _ _ | exact one_bool _ | exact one_string _ | exact one_slice _ _ _ | exact one_pointer _ | exact hget_push_one _ _ _ _ (by omega) | (simp only [List.length_map, List.length_set, List.length_replicate]; omega) | (rw [hget_push_lt _ _ _ _ (by omega)]; first | assumption | exact hget_push_one _ _ _ _ (by omega))) only [runK_nil, runK_seq, runK_seq_exit, runK_seq_ret, runK_block_normal, runK_block_exit, runK_block_ret, go_skip, go_ret, go_exit, go_seq, go_block, go_ops, goO_nil, goO_cons, goV_some, goO_guard, goG_yes, goG_tf, goG_ft, goG_tuple, goPG_tuple, go_cond, goI_true, goI_false, go_draw, goP_nil, goP_cons, goPV_some, goP_guard, goPG_yes, goPG_tf, goPG_ft, does_some, loopP_normal, loopP_exit, loopP_ret, contE_eq, contR_eq, row0, row1, row2, row3, expand_one, replicate_int, replicate_bool, mkSlice_one, idxS_new, idxA_new, len_slice, hget_set_self, Option.map_some, set_int, set_bool, get_set_eq, get_set_ne, op1_some, op2_some, ret1_some, retP_some, retB_some, push_eq, pickX_true, pickX_false, callR_some, callR_none, callX_some, callY_some, slcSX_some, slcX_some, slcAX_some, s_mov, s_pick, s_alloc, s_box, s_build, s_mkRow, s_load, s_nilChk, s_bin, s_eqB, s_eqNil, s_un, s_convI, s_convS, s_b2s, s_mkSlice, s_slcS, s_slc, s_slcA, s_fldA, s_fldV, s_idxS, s_idxA, s_idxStr, s_idxV, s_ext, s_mkFn, s_mkIf, s_len, s_mm, s_cap, s_eqIf, s_callF, s_callV, s_app, s_store, s_copy, q_mov, q_pick, q_alloc, q_box, q_build, q_mkRow, q_load, q_nilChk, q_bin, q_eqB, q_eqNil, q_un, q_convI, q_convS, q_b2s, q_mkSlice, q_slcS, q_slc, q_slcA, q_fldA, q_fldV, q_idxS, q_idxA, q_idxStr, q_idxV, q_ext, q_mkFn, q_mkIf, q_len, q_mm, q_callF, q_cap, q_eqIf, evs_nil, consO_some, evs_cons, evO_none, mapO_some, evO_some, evParts_nil, consP_some, evParts_cons, hiddenHeap_nil, hiddenHeap_true, hiddenHeap_false, hiddenHeap_all, hpush_nil, ev_tmp, ev_const, fget_cons', fput_nil, fput_cons', fputO_some, fputO_none, elemB_nil, elemB_cons', fkeep_nil, fkeep_cons', args0, slotsL, opdsA, List.cons_append, List.nil_append, List.map_cons, List.map_nil, List.append_nil, Option.toList_some, Option.toList_none, decide_yes, decide_no, b_lss, b_leq, b_gtr, b_geq, b_eql, b_neq, b_add, b_sub, b_mul, b_quo_pos, b_rem_pos, b_seql, b_sneq, wrap64, u_not, u_neg, not_decide', eqB_f, eqB_t, idxNat_in, mm_max, mm_min, convI_int, ext_tuple, lget_zero, lget_succ, loadA_old, aload_old, callP_old, callP_rounds, gcO_some, retE_ret, retE_normal, Value.int.injEq, Value.bool.injEq, Value.string.injEq, true_and, and_true, and_self, retP_ret, retP_normal, retX_some, retW_ret, retW_normal, retWX_some, resOf_nil, resOf_tmp, resOf_cell, tupleOf_one, tupleOf_two, loadO_new, loadB_some, Nat.reduceEqDiff, Nat.reduceLT, Nat.reduceAdd, Nat.reduceBEq, Int.reduceAdd, Int.reduceSub, Int.reduceLT, Int.reduceLE, Int.reduceEq, Int.reduceNeg, ↓reduceIte, if_true, if_false, Bool.false_eq_true, Bool.not_true, Bool.not_false, List.length_cons, List.length_nil, List.length_singleton, reduceCtorEq, Int.toNat_natCast, decide_true, decide_false, Nat.zero_add, Nat.add_zero, Int.add_sub_cancel, eq_self, not_true_eq_false, not_false_eq_true, hget_push_one, hget_push_lt, hget_push_gt, hget_set_ne, storeA_new, storeB_some, one_int, one_bool, one_string, one_slice, one_pointer, lget_map, gc_int, gc_bool, gc_string, gc_nil_int, gc_int_int, gc_string_int, idxStr_in, len_string, q_s2b, s_s2b, s2b_string, box_agg, fldA_new, loadAgg_new, loadN_some, ltake_zero, ltake_succ, List.drop_zero, List.drop_succ_cons, Option.some.injEq, Prod.mk.injEq, c23l0]) | (refine does_goI_dec (fun _ => ?_) (fun _ => ?_)) | (refine does_goG_dec (fun _ => ?_) (fun _ => ?_)) | (refine does_goI (fun _ => ?_) (fun _ => ?_)) | (refine does_goG (fun _ => ?_) (fun _ => ?_)))
      rw [placeG_none l.length hj]
theorem rindex_p (w : World) (n : Nat) {v : Value} {l : List ByteArray} {h : Heap} {nx p : Nat} (hr : Rd (oldOf w) h Value.string v l) (hm : l.length ≤ 140737488351232) (x : ByteArray) :
    (EN w (n + 1)).pcall 24 [v, .string x] ⟨h, nx, p⟩ = some (.int .i64 (placeG l x l.length), []) := by
  refine pcall_eq rfl rfl (Nat.le_of_ble_eq_true rfl) ?_
  repeat' (first | (simp (disch := first | omega | assumption | exact callP_old _ _ _ _ _ | exact one_int _ _ | exact one_bool _ | exact one_string _ | exact one_slice _ _ _ | exact one_pointer _ | exact hget_push_one _ _ _ _ (by omega) | (simp only [List.length_map, List.length_set, List.length_replicate]; omega) | (rw [hget_push_lt _ _ _ _ (by omega)]; first | assumption | exact hget_push_one _ _ _ _ (by omega))) only [runK_nil, runK_seq, runK_seq_exit, runK_seq_ret, runK_block_normal, runK_block_exit, runK_block_ret, go_skip, go_ret, go_exit, go_seq, go_block, go_ops, goO_nil, goO_cons, goV_some, goO_guard, goG_yes, goG_tf, goG_ft, goG_tuple, goPG_tuple, go_cond, goI_true, goI_false, go_draw, goP_nil, goP_cons, goPV_some, goP_guard, goPG_yes, goPG_tf, goPG_ft, does_some, loopP_normal, loopP_exit, loopP_ret, contE_eq, contR_eq, row0, row1, row2, row3, expand_one, replicate_int, replicate_bool, mkSlice_one, idxS_new, idxA_new, len_slice, hget_set_self, Option.map_some, set_int, set_bool, get_set_eq, get_set_ne, op1_some, op2_some, ret1_some, retP_some, retB_some, push_eq, pickX_true, pickX_false, callR_some, callR_none, callX_some, callY_some, slcSX_some, slcX_some, slcAX_some, s_mov, s_pick, s_alloc, s_box, s_build, s_mkRow, s_load, s_nilChk, s_bin, s_eqB, s_eqNil, s_un, s_convI, s_convS, s_b2s, s_mkSlice, s_slcS, s_slc, s_slcA, s_fldA, s_fldV, s_idxS, s_idxA, s_idxStr, s_idxV, s_ext, s_mkFn, s_mkIf, s_len, s_mm, s_cap, s_eqIf, s_callF, s_callV, s_app, s_store, s_copy, q_mov, q_pick, q_alloc, q_box, q_build, q_mkRow, q_load, q_nilChk, q_bin, q_eqB, q_eqNil, q_un, q_convI, q_convS, q_b2s, q_mkSlice, q_slcS, q_slc, q_slcA, q_fldA, q_fldV, q_idxS, q_idxA, q_idxStr, q_idxV, q_ext, q_mkFn, q_mkIf, q_len, q_mm, q_callF, q_cap, q_eqIf, evs_nil, consO_some, evs_cons, evO_none, mapO_some, evO_some, evParts_nil, consP_some, evParts_cons, hiddenHeap_nil, hiddenHeap_true, hiddenHeap_false, hiddenHeap_all, hpush_nil, ev_tmp, ev_const, fget_cons', fput_nil, fput_cons', fputO_some, fputO_none, elemB_nil, elemB_cons', fkeep_nil, fkeep_cons', args0, slotsL, opdsA, List.cons_append, List.nil_append, List.map_cons, List.map_nil, List.append_nil, Option.toList_some, Option.toList_none, decide_yes, decide_no, b_lss, b_leq, b_gtr, b_geq, b_eql, b_neq, b_add, b_sub, b_mul, b_quo_pos, b_rem_pos, b_seql, b_sneq, wrap64, u_not, u_neg, not_decide', eqB_f, eqB_t, idxNat_in, mm_max, mm_min, convI_int, ext_tuple, lget_zero, lget_succ, loadA_old, aload_old, callP_old, callP_rounds, gcO_some, retE_ret, retE_normal, Value.int.injEq, Value.bool.injEq, Value.string.injEq, true_and, and_true, and_self, retP_ret, retP_normal, retX_some, retW_ret, retW_normal, retWX_some, resOf_nil, resOf_tmp, resOf_cell, tupleOf_one, tupleOf_two, loadO_new, loadB_some, Nat.reduceEqDiff, Nat.reduceLT, Nat.reduceAdd, Nat.reduceBEq, Int.reduceAdd, Int.reduceSub, Int.reduceLT, Int.reduceLE, Int.reduceEq, Int.reduceNeg, ↓reduceIte, if_true, if_false, Bool.false_eq_true, Bool.not_true, Bool.not_false, List.length_cons, List.length_nil, List.length_singleton, reduceCtorEq, Int.toNat_natCast, decide_true, decide_false, Nat.zero_add, Nat.add_zero, Int.add_sub_cancel, eq_self, not_true_eq_false, not_false_eq_true, hget_push_one, hget_push_lt, hget_push_gt, hget_set_ne, storeA_new, storeB_some, one_int, one_bool, one_string, one_slice, one_pointer, lget_map, gc_int, gc_bool, gc_string, gc_nil_int, gc_int_int, gc_string_int, idxStr_in, len_string, q_s2b, s_s2b, s2b_string, box_agg, fldA_new, loadAgg_new, loadN_some, ltake_zero, ltake_succ, List.drop_zero, List.drop_succ_cons, Option.some.injEq, Prod.mk.injEq, hr.len]) | (refine does_goI_dec (fun _ => ?_) (fun _ => ?_)) | (refine does_goG_dec (fun _ => ?_) (fun _ => ?_)) | (refine does_goI (fun _ => ?_) (fun _ => ?_)) | (refine does_goG (fun _ => ?_) (fun _ => ?_)))
  refine does_while (fun m fr t => ∃ k : Nat, m = l.length - k ∧ k ≤ l.length ∧ fr = [(0, v), (1, .string x), (5, .int .i64 k)] ∧ t = ⟨h, nx, nx⟩ ∧ ∀ j, j < k → ¬ l[j]! = x) (m := l.length) ?_ ?_ ?_
  · exact ⟨0, by omega, by omega, rfl, rfl, by omega⟩
  · simp (disch := first | omega | assumption | exact callP_old _ _ _ _ _ | exact one_int _ _ | exact one_bool _ | exact one_string _ | exact one_slice _ _ _ | exact one_pointer _ | exact hget_push_one _ _ _ _ (by omega) | (simp only [List.length_map, List.length_set, List.length_replicate]; omega) | (rw [hget_push_lt _ _ _ _ (by omega)]; first | assumption | exact hget_push_one _ _ _ _ (by omega))) only [runK_nil, runK_seq, runK_seq_exit, runK_seq_ret, runK_block_normal, runK_block_exit, runK_block_ret, go_skip, go_ret, go_exit, go_seq, go_block, go_ops, goO_nil, goO_cons, goV_some, goO_guard, goG_yes, goG_tf, goG_ft, goG_tuple, goPG_tuple, go_cond, goI_true, goI_false, go_draw, goP_nil, goP_cons, goPV_some, goP_guard, goPG_yes, goPG_tf, goPG_ft, does_some, loopP_normal, loopP_exit, loopP_ret, contE_eq, contR_eq, row0, row1, row2, row3, expand_one, replicate_int, replicate_bool, mkSlice_one, idxS_new, idxA_new, len_slice, hget_set_self, Option.map_some, set_int, set_bool, get_set_eq, get_set_ne, op1_some, op2_some, ret1_some, retP_some, retB_some, push_eq, pickX_true, pickX_false, callR_some, callR_none, callX_some, callY_some, slcSX_some, slcX_some, slcAX_some, s_mov, s_pick, s_alloc, s_box, s_build, s_mkRow, s_load, s_nilChk, s_bin, s_eqB, s_eqNil, s_un, s_convI, s_convS, s_b2s, s_mkSlice, s_slcS, s_slc, s_slcA, s_fldA, s_fldV, s_idxS, s_idxA, s_idxStr, s_idxV, s_ext, s_mkFn, s_mkIf, s_len, s_mm, s_cap, s_eqIf, s_callF, s_callV, s_app, s_store, s_copy, q_mov, q_pick, q_alloc, q_box, q_build, q_mkRow, q_load, q_nilChk, q_bin, q_eqB, q_eqNil, q_un, q_convI, q_convS, q_b2s, q_mkSlice, q_slcS, q_slc, q_slcA, q_fldA, q_fldV, q_idxS, q_idxA, q_idxStr, q_idxV, q_ext, q_mkFn, q_mkIf, q_len, q_mm, q_callF, q_cap, q_eqIf, evs_nil, consO_some, evs_cons, evO_none, mapO_some, evO_some, evParts_nil, consP_some, evParts_cons, hiddenHeap_nil, hiddenHeap_true, hiddenHeap_false, hiddenHeap_all, hpush_nil, ev_tmp, ev_const, fget_cons', fput_nil, fput_cons', fputO_some, fputO_none, elemB_nil, elemB_cons', fkeep_nil, fkeep_cons', args0, slotsL, opdsA, List.cons_append, List.nil_append, List.map_cons, List.map_nil, List.append_nil, Option.toList_some, Option.toList_none, decide_yes, decide_no, b_lss, b_leq, b_gtr, b_geq, b_eql, b_neq, b_add, b_sub, b_mul, b_quo_pos, b_rem_pos, b_seql, b_sneq, wrap64, u_not, u_neg, not_decide', eqB_f, eqB_t, idxNat_in, mm_max, mm_min, convI_int, ext_tuple, lget_zero, lget_succ, loadA_old, aload_old, callP_old, callP_rounds, gcO_some, retE_ret, retE_normal, Value.int.injEq, Value.bool.injEq, Value.string.injEq, true_and, and_true, and_self, retP_ret, retP_normal, retX_some, retW_ret, retW_normal, retWX_some, resOf_nil, resOf_tmp, resOf_cell, tupleOf_one, tupleOf_two, loadO_new, loadB_some, Nat.reduceEqDiff, Nat.reduceLT, Nat.reduceAdd, Nat.reduceBEq, Int.reduceAdd, Int.reduceSub, Int.reduceLT, Int.reduceLE, Int.reduceEq, Int.reduceNeg, ↓reduceIte, if_true, if_false, Bool.false_eq_true, Bool.not_true, Bool.not_false, List.length_cons, List.length_nil, List.length_singleton, reduceCtorEq, Int.toNat_natCast, decide_true, decide_false, Nat.zero_add, Nat.add_zero, Int.add_sub_cancel, eq_self, not_true_eq_false, not_false_eq_true, hget_push_one, hget_push_lt, hget_push_gt, hget_set_ne, storeA_new, storeB_some, one_int, one_bool, one_string, one_slice, one_pointer, lget_map, gc_int, gc_bool, gc_string, gc_nil_int, gc_int_int, gc_string_int, idxStr_in, len_string, q_s2b, s_s2b, s2b_string, box_agg, fldA_new, loadAgg_new, loadN_some, ltake_zero, ltake_succ, List.drop_zero, List.drop_succ_cons, Option.some.injEq, Prod.mk.injEq]
    unfold many; omega
  · rintro m fr t ⟨k, rfl, hk, rfl, rfl, hj⟩
    by_cases hlt : k < l.length
    · by_cases hx : l[k]! = x
      · repeat' (first | (simp (disch := first | omega | assumption | exact callP_old _ _ _ _ _ | exact one_int _ _ | exact one_bool _ | exact one_string _ | exact one_slice _ _ _ | exact one_pointer _ | exact hget_push_one _ _ _ _ (by omega) | (simp only [List.length_map, List.length_set, List.length_replicate]; omega) | (rw [hget_push_lt _ _ _ _ (by omega)]; first | assumption | exact hget_push_one _ _ _ _ (by omega))) only [runK_nil, runK_seq, runK_seq_exit, runK_seq_ret, runK_block_normal, runK_block_exit, runK_block_ret, go_skip, go_ret, go_exit, go_seq, go_block, go_ops, goO_nil, goO_cons, goV_some, goO_guard, goG_yes, goG_tf, goG_ft, goG_tuple, goPG_tuple, go_cond, goI_true, goI_false, go_draw, goP_nil, goP_cons, goPV_some, goP_guard, goPG_yes, goPG_tf, goPG_ft, does_some, loopP_normal, loopP_exit, loopP_ret, contE_eq, contR_eq, row0, row1, row2, row3, expand_one, replicate_int, replicate_bool, mkSlice_one, idxS_new, idxA_new, len_slice, hget_set_self, Option.map_some, set_int, set_bool, get_set_eq, get_set_ne, op1_some, op2_some, ret1_some, retP_some, retB_some, push_eq, pickX_true, pickX_false, callR_some, callR_none, callX_some, callY_some, slcSX_some, slcX_some, slcAX_some, s_mov, s_pick, s_alloc, s_box, s_build, s_mkRow, s_load, s_nilChk, s_bin, s_eqB, s_eqNil, s_un, s_convI, s_convS, s_b2s, s_mkSlice, s_slcS, s_slc, s_slcA, s_fldA, s_fldV, s_idxS, s_idxA, s_idxStr, s_idxV, s_ext, s_mkFn, s_mkIf, s_len, s_mm, s_cap, s_eqIf, s_callF, s_callV, s_app, s_store, s_copy, q_mov, q_pick, q_alloc, q_box, q_build, q_mkRow, q_load, q_nilChk, q_bin, q_eqB, q_eqNil, q_un, q_convI, q_convS, q_b2s, q_mkSlice, q_slcS, q_slc, q_slcA, q_fldA, q_fldV, q_idxS, q_idxA, q_idxStr, q_idxV, q_ext, q_mkFn, q_mkIf, q_len, q_mm, q_callF, q_cap, q_eqIf, evs_nil, consO_some, evs_cons, evO_none, mapO_some, evO_some, evParts_nil, consP_some, evParts_cons, hiddenHeap_nil, hiddenHeap_true, hiddenHeap_false, hiddenHeap_all, hpush_nil, ev_tmp, ev_const, fget_cons', fput_nil, fput_cons', fputO_some, fputO_none, elemB_nil, elemB_cons', fkeep_nil, fkeep_cons', args0, slotsL, opdsA, List.cons_append, List.nil_append, List.map_cons, List.map_nil, List.append_nil, Option.toList_some, Option.toList_none, decide_yes, decide_no, b_lss, b_leq, b_gtr, b_geq, b_eql, b_neq, b_add, b_sub, b_mul, b_quo_pos, b_rem_pos, b_seql, b_sneq, wrap64, u_not, u_neg, not_decide', eqB_f, eqB_t, idxNat_in, mm_max, mm_min, convI_int, ext_tuple, lget_zero, lget_succ, loadA_old, aload_old, callP_old, callP_rounds, gcO_some, retE_ret, retE_normal, Value.int.injEq, Value.bool.injEq, Value.string.injEq, true_and, and_true, and_self, retP_ret, retP_normal, retX_some, retW_ret, retW_normal, retWX_some, resOf_nil, resOf_tmp, resOf_cell, tupleOf_one, tupleOf_two, loadO_new, loadB_some, Nat.reduceEqDiff, Nat.reduceLT, Nat.reduceAdd, Nat.reduceBEq, Int.reduceAdd, Int.reduceSub, Int.reduceLT, Int.reduceLE, Int.reduceEq, Int.reduceNeg, ↓reduceIte, if_true, if_false, Bool.false_eq_true, Bool.not_true, Bool.not_false, List.length_cons, List.length_nil, List.length_singleton, reduceCtorEq, Int.toNat_natCast, decide_true, decide_false, Nat.zero_add, Nat.add_zero, Int.add_sub_cancel, eq_self, not_true_eq_false, not_false_eq_true, hget_push_one, hget_push_lt, hget_push_gt, hget_set_ne, storeA_new, storeB_some, one_int, one_bool, one_string, one_slice, one_pointer, lget_map, gc_int, gc_bool, gc_string, gc_nil_int, gc_int_int, gc_string_int, idxStr_in, len_string, q_s2b, s_s2b, s2b_string, box_agg, fldA_new, loadAgg_new, loadN_some, ltake_zero, ltake_succ, List.drop_zero, List.drop_succ_cons, Option.some.injEq, Prod.mk.injEq, c24l0, hr.len, hr.idx, hr.load]) | (refine does_goI_dec (fun _ => ?_) (fun _ => ?_)) | (refine does_goG_dec (fun _ => ?_) (fun _ => ?_)) | (refine does_goI (fun _ => ?_) (fun _ => ?_)) | (refine does_goG (fun _ => ?_) (fun _ => ?_)))
        rw [placeG_some hx hj l.length hlt]
      · repeat' (first | (simp (disch := first | omega | assumption | exact callP_old _ _ _ _ _ | exact one_int _ _ | exact one_bool _ | exact one_string _ | exact one_slice _ _ _ | exact one_pointer _ | exact hget_push_one _ _ _ _ (by omega) | (simp only [List.length_map, List.length_set, List.length_replicate]; omega) | (rw [hget_push_lt _ _ _ _ (by omega)]; first | assumption | exact hget_push_one _ _ _ _ (by omega))) only [runK_nil, runK_seq, runK_seq_exit, runK_seq_ret, runK_block_normal, runK_block_exit, runK_block_ret, go_skip, go_ret, go_exit, go_seq, go_block, go_ops, goO_nil, goO_cons, goV_some, goO_guard, goG_yes, goG_tf, goG_ft, goG_tuple, goPG_tuple, go_cond, goI_true, goI_false, go_draw, goP_nil, goP_cons, goPV_some, goP_guard, goPG_yes, goPG_tf, goPG_ft, does_some, loopP_normal, loopP_exit, loopP_ret, contE_eq, contR_eq, row0, row1, row2, row3, expand_one, replicate_int, replicate_bool, mkSlice_one, idxS_new, idxA_new, len_slice, hget_set_self, Option.map_some, set_int, set_bool, get_set_eq, get_set_ne, op1_some, op2_some, ret1_some, retP_some, retB_some, push_eq, pickX_true, pickX_false, callR_some, callR_none, callX_some, callY_some, slcSX_some, slcX_some, slcAX_some, s_mov, s_pick, s_alloc, s_box, s_build, s_mkRow, s_load, s_nilChk, s_bin, s_eqB, s_eqNil, s_un, s_convI, s_convS, s_b2s, s_mkSlice, s_slcS, s_slc, s_slcA, s_fldA, s_fldV, s_idxS, s_idxA, s_idxStr, s_idxV, s_ext, s_mkFn, s_mkIf, s_len, s_mm, s_cap, s_eqIf, s_callF, s_callV, s_app, s_store, s_copy, q_mov, q_pick, q_alloc, q_box, q_build, q_mkRow, q_load, q_nilChk, q_bin, q_eqB, q_eqNil, q_un, q_convI, q_convS, q_b2s, q_mkSlice, q_slcS, q_slc, q_slcA, q_fldA, q_fldV, q_idxS, q_idxA, q_idxStr, q_idxV, q_ext, q_mkFn, q_mkIf, q_len, q_mm, q_callF, q_cap, q_eqIf, evs_nil, consO_some, evs_cons, evO_none, mapO_some, evO_some, evParts_nil, consP_some, evParts_cons, hiddenHeap_nil, hiddenHeap_true, hiddenHeap_false, hiddenHeap_all, hpush_nil, ev_tmp, ev_const, fget_cons', fput_nil, fput_cons', fputO_some, fputO_none, elemB_nil, elemB_cons', fkeep_nil, fkeep_cons', args0, slotsL, opdsA, List.cons_append, List.nil_append, List.map_cons, List.map_nil, List.append_nil, Option.toList_some, Option.toList_none, decide_yes, decide_no, b_lss, b_leq, b_gtr, b_geq, b_eql, b_neq, b_add, b_sub, b_mul, b_quo_pos, b_rem_pos, b_seql, b_sneq, wrap64, u_not, u_neg, not_decide', eqB_f, eqB_t, idxNat_in, mm_max, mm_min, convI_int, ext_tuple, lget_zero, lget_succ, loadA_old, aload_old, callP_old, callP_rounds, gcO_some, retE_ret, retE_normal, Value.int.injEq, Value.bool.injEq, Value.string.injEq, true_and, and_true, and_self, retP_ret, retP_normal, retX_some, retW_ret, retW_normal, retWX_some, resOf_nil, resOf_tmp, resOf_cell, tupleOf_one, tupleOf_two, loadO_new, loadB_some, Nat.reduceEqDiff, Nat.reduceLT, Nat.reduceAdd, Nat.reduceBEq, Int.reduceAdd, Int.reduceSub, Int.reduceLT, Int.reduceLE, Int.reduceEq, Int.reduceNeg, ↓reduceIte, if_true, if_false, Bool.false_eq_true, Bool.not_true, Bool.not_false, List.length_cons, List.length_nil, List.length_singleton, reduceCtorEq, Int.toNat_natCast, decide_true, decide_false, Nat.zero_add, Nat.add_zero, Int.add_sub_cancel, eq_self, not_true_eq_false, not_false_eq_true, hget_push_one, hget_push_lt, hget_push_gt, hget_set_ne, storeA_new, storeB_some, one_int, one_bool, one_string, one_slice, one_pointer, lget_map, gc_int, gc_bool, gc_string, gc_nil_int, gc_int_int, gc_string_int, idxStr_in, len_string, q_s2b, s_s2b, s2b_string, box_agg, fldA_new, loadAgg_new, loadN_some, ltake_zero, ltake_succ, List.drop_zero, List.drop_succ_cons, Option.some.injEq, Prod.mk.injEq, c24l0, hr.len, hr.idx, hr.load]) | (refine does_goI_dec (fun _ => ?_) (fun _ => ?_)) | (refine does_goG_dec (fun _ => ?_) (fun _ => ?_)) | (refine does_goI (fun _ => ?_) (fun _ => ?_)) | (refine does_goG (fun _ => ?_) (fun _ => ?_)))
        refine ⟨_, ?_, k + 1, rfl, hlt, by simp, lt_succ_cases hj hx⟩
        omega
    · have : k = l.length := by omega
      subst this
      repeat' (first | (simp (disch := first | omega | assumption | exact callP_old _ _ _ _ _ | exact one_int _ _ | exact one_bool _ | exact one_string _ | exact one_slice _ _ _ | exact one_pointer _ | exact hget_push_one _ _ _ _ (by omega) | (simp only [List.length_map, List.length_set, List.length_replicate]; omega) | (rw [hget_push_lt _ _ _ _ (by omega)]; first | assumption | exact hget_push_one _ _ _ _ (by omega))) only [runK_nil, runK_seq, runK_seq_exit, runK_seq_ret, runK_block_normal, runK_block_exit, runK_block_ret, go_skip, go_ret, go_exit, go_seq, go_block, go_ops, goO_nil, goO_cons, goV_some, goO_guard, goG_yes, goG_tf, goG_ft, goG_tuple, goPG_tuple, go_cond, goI_true, goI_false, go_draw, goP_nil, goP_cons, goPV_some, goP_guard, goPG_yes, goPG_tf, goPG_ft, does_some, loopP_normal, loopP_exit, loopP_ret, contE_eq, contR_eq, row0, row1, row2, row3, expand_one, replicate_int, replicate_bool, mkSlice_one, idxS_new, idxA_new, len_slice, hget_set_self, Option.map_some, set_int, set_bool, get_set_eq, get_set_ne, op1_some, op2_some, ret1_some, retP_some, retB_some, push_eq, pickX_true, pickX_false, callR_some, callR_none, callX_some, callY_some, slcSX_some, slcX_some, slcAX_some, s_mov, s_pick, s_alloc, s_box, s_build, s_mkRow, s_load, s_nilChk, s_bin, s_eqB, s_eqNil, s_un, s_convI, s_convS, s_b2s, s_mkSlice, s_slcS, s_slc, s_slcA, s_fldA, s_fldV, s_idxS, s_idxA, s_idxStr, s_idxV, s_ext, s_mkFn, s_mkIf, s_len, s_mm, s_cap, s_eqIf, s_callF, s_callV, s_app, s_store, s_copy, q_mov, q_pick, q_alloc, q_box, q_build, q_mkRow, q_load, q_nilChk, q_bin, q_eqB, q_eqNil, q_un, q_convI, q_convS, q_b2s, q_mkSlice, q_slcS, q_slc, q_slcA, q_fldA, q_fldV, q_idxS, q_idxA, q_idxStr, q_idxV, q_ext, q_mkFn, q_mkIf, q_len, q_mm, q_callF, q_cap, q_eqIf, evs_nil, consO_some, evs_cons, evO_none, mapO_some, evO_some, evParts_nil, consP_some, evParts_cons, hiddenHeap_nil, hiddenHeap_true, hiddenHeap_false, hiddenHeap_all, hpush_nil, ev_tmp, ev_const, fget_cons', fput_nil, fput_cons', fputO_some, fputO_none, elemB_nil, elemB_cons', fkeep_nil, fkeep_cons', args0, slotsL, opdsA, List.cons_append, List.nil_append, List.map_cons, List.map_nil, List.append_nil, Option.toList_some, Option.toList_none, decide_yes, decide_no, b_lss, b_leq, b_gtr, b_geq, b_eql, b_neq, b_add, b_sub, b_mul, b_quo_pos, b_rem_pos, b_seql, b_sneq, wrap64, u_not, u_neg, not_decide', eqB_f, eqB_t, idxNat_in, mm_max, mm_min, convI_int, ext_tuple, lget_zero, lget_succ, loadA_old, aload_old, callP_old, callP_rounds, gcO_some, retE_ret, retE_normal, Value.int.injEq, Value.bool.injEq, Value.string.injEq, true_and, and_true, and_self, retP_ret, retP_normal, retX_some, retW_ret, retW_normal, retWX_some, resOf_nil, resOf_tmp, resOf_cell, tupleOf_one, tupleOf_two, loadO_new, loadB_some, Nat.reduceEqDiff, Nat.reduceLT, Nat.reduceAdd, Nat.reduceBEq, Int.reduceAdd, Int.reduceSub, Int.reduceLT, Int.reduceLE, Int.reduceEq, Int.reduceNeg, ↓reduceIte, if_true, if_false, Bool.false_eq_true, Bool.not_true, Bool.not_false, List.length_cons, List.length_nil, List.length_singleton, reduceCtorEq, Int.toNat_natCast, decide_true, decide_false, Nat.zero_add, Nat.add_zero, Int.add_sub_cancel, eq_self, not_true_eq_false, not_false_eq_true, hget_push_one, hget_push_lt, hget_push_gt, hget_set_ne, storeA_new, storeB_some, one_int, one_bool, one_string, one_slice, one_pointer, lget_map, gc_int, gc_bool, gc_string, gc_nil_int, gc_int_int, gc_string_int, idxStr_in, len_string, q_s2b, s_s2b, s2b_string, box_agg, fldA_new, loadAgg_new, loadN_some, ltake_zero, ltake_succ, List.drop_zero, List.drop_succ_cons, Option.some.injEq, Prod.mk.injEq, c24l0, hr.len]) | (refine does_goI_dec (fun _ => ?_) (fun _ => ?_)) | (refine does_goG_dec (fun _ => ?_) (fun _ => ?_)) | (refine does_goI (fun _ => ?_) (fun _ => ?_)) | (refine does_goG (fun _ => ?_) (fun _ => ?_)))
      rw [placeG_none l.length hj]

/-! ### lists of words -/
def wordsS (l : List ByteArray) : Bool := decide (0 < l.length ∧ ∀ j, j < l.length → wordS l[j]! = true)
def twiceS (l : List ByteArray) : Bool := decide (∃ j, j < l.length ∧ placeG l l[j]! l.length < j)
theorem words_p (w : World) (n : Nat) {v : Value} {l : List ByteArray} {h : Heap} {nx p : Nat} (hr : Rd (oldOf w) h Value.string v l) (hm : l.length ≤ 140737488351232) (hs : ∀ j, j < l.length → l[j]!.size ≤ 140737488351232) :
    (EN w (n + 2)).pcall 25 [v] ⟨h, nx, p⟩ = some (.tuple [.bool (wordsS l), .bool (twiceS l)].toArray, []) := by
  refine pcall_eq rfl rfl (Nat.le_of_ble_eq_true rfl) ?_
  repeat' (first | (simp (disch := first | omega | assumption | exact callP_old _ _ _ _ _ | exact one_int _ _ | exact one_bool _ | exact one_string _ | exact one_slice _ _ _ | exact one_pointer _ | exact hget_push_one _ _ _ _ (by omega) | (simp only [List.length_map, List.length_set, List.length_replicate]; omega) | (rw [hget_push_lt _ _ _ _ (by omega)]; first | assumption | exact hget_push_one _ _ _ _ (by omega))) only [runK_nil, runK_seq, runK_seq_exit, runK_seq_ret, runK_block_normal, runK_block_exit, runK_block_ret, go_skip, go_ret, go_exit, go_seq, go_block, go_ops, goO_nil, goO_cons, goV_some, goO_guard, goG_yes, goG_tf, goG_ft, goG_tuple, goPG_tuple, go_cond, goI_true, goI_false, go_draw, goP_nil, goP_cons, goPV_some, goP_guard, goPG_yes, goPG_tf, goPG_ft, does_some, loopP_normal, loopP_exit, loopP_ret, contE_eq, contR_eq, row0, row1, row2, row3, expand_one, replicate_int, replicate_bool, mkSlice_one, idxS_new, idxA_new, len_slice, hget_set_self, Option.map_some, set_int, set_bool, get_set_eq, get_set_ne, op1_some, op2_some, ret1_some, retP_some, retB_some, push_eq, pickX_true, pickX_false, callR_some, callR_none, callX_some, callY_some, slcSX_some, slcX_some, slcAX_some, s_mov, s_pick, s_alloc, s_box, s_build, s_mkRow, s_load, s_nilChk, s_bin, s_eqB, s_eqNil, s_un, s_convI, s_convS, s_b2s, s_mkSlice, s_slcS, s_slc, s_slcA, s_fldA, s_fldV, s_idxS, s_idxA, s_idxStr, s_idxV, s_ext, s_mkFn, s_mkIf, s_len, s_mm, s_cap, s_eqIf, s_callF, s_callV, s_app, s_store, s_copy, q_mov, q_pick, q_alloc, q_box, q_build, q_mkRow, q_load, q_nilChk, q_bin, q_eqB, q_eqNil, q_un, q_convI, q_convS, q_b2s, q_mkSlice, q_slcS, q_slc, q_slcA, q_fldA, q_fldV, q_idxS, q_idxA, q_idxStr, q_idxV, q_ext, q_mkFn, q_mkIf, q_len, q_mm, q_callF, q_cap, q_eqIf, evs_nil, consO_some, evs_cons, evO_none, mapO_some, evO_some, evParts_nil, consP_some, evParts_cons, hiddenHeap_nil, hiddenHeap_true, hiddenHeap_false, hiddenHeap_all, hpush_nil, ev_tmp, ev_const, fget_cons', fput_nil, fput_cons', fputO_some, fputO_none, elemB_nil, elemB_cons', fkeep_nil, fkeep_cons', args0, slotsL, opdsA, List.cons_append, List.nil_append, List.map_cons, List.map_nil, List.append_nil, Option.toList_some, Option.toList_none, decide_yes, decide_no, b_lss, b_leq, b_gtr, b_geq, b_eql, b_neq, b_add, b_sub, b_mul, b_quo_pos, b_rem_pos, b_seql, b_sneq, wrap64, u_not, u_neg, not_decide', eqB_f, eqB_t, idxNat_in, mm_max, mm_min, convI_int, ext_tuple, lget_zero, lget_succ, loadA_old, aload_old, callP_old, callP_rounds, gcO_some, retE_ret, retE_normal, Value.int.injEq, Value.bool.injEq, Value.string.injEq, true_and, and_true, and_self, retP_ret, retP_normal, retX_some, retW_ret, retW_normal, retWX_some, resOf_nil, resOf_tmp, resOf_cell, tupleOf_one, tupleOf_two, loadO_new, loadB_some, Nat.reduceEqDiff, Nat.reduceLT, Nat.reduceAdd, Nat.reduceBEq, Int.reduceAdd, Int.reduceSub, Int.reduceLT, Int.reduceLE, Int.reduceEq, Int.reduceNeg, ↓reduceIte, if_true, if_false, Bool.false_eq_true, Bool.not_true, Bool.not_false, List.length_cons, List.length_nil, List.length_singleton, reduceCtorEq, Int.toNat_natCast, decide_true, decide_false, Nat.zero_add, Nat.add_zero, Int.add_sub_cancel, eq_self, not_true_eq_false, not_false_eq_true, hget_push_one, hget_push_lt, hget_push_gt, hget_set_ne, storeA_new, storeB_some, one_int, one_bool, one_string, one_slice, one_pointer, lget_map, gc_int, gc_bool, gc_string, gc_nil_int, gc_int_int, gc_string_int, idxStr_in, len_string, q_s2b, s_s2b, s2b_string, box_agg, fldA_new, loadAgg_new, loadN_some, ltake_zero, ltake_succ, List.drop_zero, List.drop_succ_cons, Option.some.injEq, Prod.mk.injEq, hr.len]) | (refine does_goI_dec (fun _ => ?_) (fun _ => ?_)) | (refine does_goG_dec (fun _ => ?_) (fun _ => ?_)) | (refine does_goI (fun _ => ?_) (fun _ => ?_)) | (refine does_goG (fun _ => ?_) (fun _ => ?_)))
  refine does_while (fun m fr t => ∃ (k : Nat) (f g : Bool), m = l.length - k ∧ k ≤ l.length ∧ fr = [(0, v), (2, .bool f), (3, .bool g), (9, v), (10, .int .i64 l.length), (11, .int .i64 k)] ∧ t = ⟨h, nx, nx⟩ ∧
    (f = true ↔ 0 < l.length ∧ ∀ j, j < k → wordS l[j]! = true) ∧ (g = true ↔ ∃ j, j < k ∧ placeG l l[j]! l.length < j)) (m := l.length) ?_ ?_ ?_
  · exact ⟨0, _, false, by omega, by omega, rfl, rfl, by simp, by simp⟩
  · simp (disch := first | omega | assumption | exact callP_old _ _ _ _ _ | exact one_int _ _ | exact one_bool _ | exact one_string _ | exact one_slice _ _ _ | exact one_pointer _ | exact hget_push_one _ _ _ _ (by omega) | (simp only [List.length_map, List.length_set, List.length_replicate]; omega) | (rw [hget_push_lt _ _ _ _ (by omega)]; first | assumption | exact hget_push_one _ _ _ _ (by omega))) only [runK_nil, runK_seq, runK_seq_exit, runK_seq_ret, runK_block_normal, runK_block_exit, runK_block_ret, go_skip, go_ret, go_exit, go_seq, go_block, go_ops, goO_nil, goO_cons, goV_some, goO_guard, goG_yes, goG_tf, goG_ft, goG_tuple, goPG_tuple, go_cond, goI_true, goI_false, go_draw, goP_nil, goP_cons, goPV_some, goP_guard, goPG_yes, goPG_tf, goPG_ft, does_some, loopP_normal, loopP_exit, loopP_ret, contE_eq, contR_eq, row0, row1, row2, row3, expand_one, replicate_int, replicate_bool, mkSlice_one, idxS_new, idxA_new, len_slice, hget_set_self, Option.map_some, set_int, set_bool, get_set_eq, get_set_ne, op1_some, op2_some, ret1_some, retP_some, retB_some, push_eq, pickX_true, pickX_false, callR_some, callR_none, callX_some, callY_some, slcSX_some, slcX_some, slcAX_some, s_mov, s_pick, s_alloc, s_box, s_build, s_mkRow, s_load, s_nilChk, s_bin, s_eqB, s_eqNil, s_un, s_convI, s_convS, s_b2s, s_mkSlice, s_slcS, s_slc, s_slcA, s_fldA, s_fldV, s_idxS, s_idxA, s_idxStr, s_idxV, s_ext, s_mkFn, s_mkIf, s_len, s_mm, s_cap, s_eqIf, s_callF, s_callV, s_app, s_store, s_copy, q_mov, q_pick, q_alloc, q_box, q_build, q_mkRow, q_load, q_nilChk, q_bin, q_eqB, q_eqNil, q_un, q_convI, q_convS, q_b2s, q_mkSlice, q_slcS, q_slc, q_slcA, q_fldA, q_fldV, q_idxS, q_idxA, q_idxStr, q_idxV, q_ext, q_mkFn, q_mkIf, q_len, q_mm, q_callF, q_cap, q_eqIf, evs_nil, consO_some, evs_cons, evO_none, mapO_some, evO_some, evParts_nil, consP_some, evParts_cons, hiddenHeap_nil, hiddenHeap_true, hiddenHeap_false, hiddenHeap_all, hpush_nil, ev_tmp, ev_const, fget_cons', fput_nil, fput_cons', fputO_some, fputO_none, elemB_nil, elemB_cons', fkeep_nil, fkeep_cons', args0, slotsL, opdsA, List.cons_append, List.nil_append, List.map_cons, List.map_nil, List.append_nil, Option.toList_some, Option.toList_none, decide_yes, decide_no, b_lss, b_leq, b_gtr, b_geq, b_eql, b_neq, b_add, b_sub, b_mul, b_quo_pos, b_rem_pos, b_seql, b_sneq, wrap64, u_not, u_neg, not_decide', eqB_f, eqB_t, idxNat_in, mm_max, mm_min, convI_int, ext_tuple, lget_zero, lget_succ, loadA_old, aload_old, callP_old, callP_rounds, gcO_some, retE_ret, retE_normal, Value.int.injEq, Value.bool.injEq, Value.string.injEq, true_and, and_true, and_self, retP_ret, retP_normal, retX_some, retW_ret, retW_normal, retWX_some, resOf_nil, resOf_tmp, resOf_cell, tupleOf_one, tupleOf_two, loadO_new, loadB_some, Nat.reduceEqDiff, Nat.reduceLT, Nat.reduceAdd, Nat.reduceBEq, Int.reduceAdd, Int.reduceSub, Int.reduceLT, Int.reduceLE, Int.reduceEq, Int.reduceNeg, ↓reduceIte, if_true, if_false, Bool.false_eq_true, Bool.not_true, Bool.not_false, List.length_cons, List.length_nil, List.length_singleton, reduceCtorEq, Int.toNat_natCast, decide_true, decide_false, Nat.zero_add, Nat.add_zero, Int.add_sub_cancel, eq_self, not_true_eq_false, not_false_eq_true, hget_push_one, hget_push_lt, hget_push_gt, hget_set_ne, storeA_new, storeB_some, one_int, one_bool, one_string, one_slice, one_pointer, lget_map, gc_int, gc_bool, gc_string, gc_nil_int, gc_int_int, gc_string_int, idxStr_in, len_string, q_s2b, s_s2b, s2b_string, box_agg, fldA_new, loadAgg_new, loadN_some, ltake_zero, ltake_succ, List.drop_zero, List.drop_succ_cons, Option.some.injEq, Prod.mk.injEq]
    unfold many; omega
  · rintro m fr t ⟨k, f, g, rfl, hk, rfl, rfl, hf, hg⟩
    by_cases hlt : k < l.length
    · have hsk := hs k hlt
      have hf1 : (0 < l.length ∧ ∀ j, j < k + 1 → wordS l[j]! = true) ↔ f = true ∧ wordS l[k]! = true := by
        rw [hf]
        exact ⟨fun ⟨a, b⟩ => ⟨⟨a, fun j hj => b j (by omega)⟩, b k (by omega)⟩, fun ⟨⟨a, b⟩, c⟩ => ⟨a, lt_succ_cases b c⟩⟩
      have hg1 : (∃ j, j < k + 1 ∧ placeG l l[j]! l.length < j) ↔ g = true ∨ placeG l l[k]! l.length < k := by
        rw [hg]
        constructor
        · rintro ⟨j, h1, h2⟩
          by_cases e : j = k
          · subst e; exact Or.inr h2
          · exact Or.inl ⟨j, by omega, h2⟩
        · rintro (⟨j, h1, h2⟩ | h2)
          · exact ⟨j, by omega, h2⟩
          · exact ⟨k, by omega, h2⟩
      obtain ⟨F, hF⟩ : ∃ F, F = (f && wordS l[k]!) := ⟨_, rfl⟩
      obtain ⟨G, hG⟩ : ∃ G, G = (g || decide (placeG l l[k]! l.length < k)) := ⟨_, rfl⟩
      have hf2 : F = true ↔ 0 < l.length ∧ ∀ j, j < k + 1 → wordS l[j]! = true := by rw [hf1, hF, Bool.and_eq_true]
      have hg2 : G = true ↔ ∃ j, j < k + 1 ∧ placeG l l[j]! l.length < j := by rw [hg1, hG, Bool.or_eq_true, decide_eq_true_eq]
      clear hf hg hf1 hg1
      cases f <;> cases g <;> cases hw : wordS l[k]! <;> by_cases hp : placeG l l[k]! l.length < k
      all_goals
        rw [hw] at hF
        first | rw [decide_yes hp] at hG | rw [decide_no hp] at hG
        subst hF hG
        repeat' (first | (simp (disch := first | omega | assumption | exact callP_old _ _ _ _ _ | exact one_int _ _ | exact one_bool _ | exact one_string _ | exact one_slice _ _ _ | exact one_pointer _ | exact hget_push_one _ _ _ _ (by omega) | (simp only [List.length_map, List.length_set, List.length_replicate]; omega) | (rw [hget_push_lt _ _ _ _ (by omega)]; first | assumption | exact hget_push_one _ _ _ _ (by omega))) only [runK_nil, runK_seq, runK_seq_exit, runK_seq_ret, runK_block_normal, runK_block_exit, runK_block_ret, go_skip, go_ret, go_exit, go_seq, go_block, go_ops, goO_nil, goO_cons, goV_some, goO_guard, goG_yes, goG_tf, goG_ft, goG_tuple, goPG_tuple, go_cond, goI_true, goI_false, go_draw, goP_nil, goP_cons, goPV_some, goP_guard, goPG_yes, goPG_tf, goPG_ft, does_some, loopP_normal, loopP_exit, loopP_ret, contE_eq, contR_eq, row0, row1, row2, row3, expand_one, replicate_int, replicate_bool, mkSlice_one, idxS_new, idxA_new, len_slice, hget_set_self, Option.map_some, set_int, set_bool, get_set_eq, get_set_ne, op1_some, op2_some, ret1_some, retP_some, retB_some, push_eq, pickX_true, pickX_false, callR_some, callR_none, callX_some, callY_some, slcSX_some, slcX_some, slcAX_some, s_mov, s_pick, s_alloc, s_box, s_build, s_mkRow, s_load, s_nilChk, s_bin, s_eqB, s_eqNil, s_un, s_convI, s_convS, s_b2s, s_mkSlice, s_slcS, s_slc, s_slcA, s_fldA, s_fldV, s_idxS, s_idxA, s_idxStr, s_idxV, s_ext, s_mkFn, s_mkIf, s_len, s_mm, s_cap, s_eqIf, s_callF, s_callV, s_app, s_store, s_copy, q_mov, q_pick, q_alloc, q_box, q_build, q_mkRow, q_load, q_nilChk, q_bin, q_eqB, q_eqNil, q_un, q_convI, q_convS, q_b2s, q_mkSlice, q_slcS, q_slc, q_slcA, q_fldA, q_fldV, q_idxS, q_idxA, q_idxStr, q_idxV, q_ext, q_mkFn, q_mkIf, q_len, q_mm, q_callF, q_cap, q_eqIf, evs_nil, consO_some, evs_cons, evO_none, mapO_some, evO_some, evParts_nil, consP_some, evParts_cons, hiddenHeap_nil, hiddenHeap_true, hiddenHeap_false, hiddenHeap_all, hpush_nil, ev_tmp, ev_const, fget_cons', fput_nil, fput_cons', fputO_some, fputO_none, elemB_nil, elemB_cons', fkeep_nil, fkeep_cons', args0, slotsL, opdsA, List.cons_append, List.nil_append, List.map_cons, List.map_nil, List.append_nil, Option.toList_some, Option.toList_none, decide_yes, decide_no, b_lss, b_leq, b_gtr, b_geq, b_eql, b_neq, b_add, b_sub, b_mul, b_quo_pos, b_rem_pos, b_seql, b_sneq, wrap64, u_not, u_neg, not_decide', eqB_f, eqB_t, idxNat_in, mm_max, mm_min, convI_int, ext_tuple, lget_zero, lget_succ, loadA_old, aload_old, callP_old, callP_rounds, gcO_some, retE_ret, retE_normal, Value.int.injEq, Value.bool.injEq, Value.string.injEq, true_and, and_true, and_self, retP_ret, retP_normal, retX_some, retW_ret, retW_normal, retWX_some, resOf_nil, resOf_tmp, resOf_cell, tupleOf_one, tupleOf_two, loadO_new, loadB_some, Nat.reduceEqDiff, Nat.reduceLT, Nat.reduceAdd, Nat.reduceBEq, Int.reduceAdd, Int.reduceSub, Int.reduceLT, Int.reduceLE, Int.reduceEq, Int.reduceNeg, ↓reduceIte, if_true, if_false, Bool.false_eq_true, Bool.not_true, Bool.not_false, List.length_cons, List.length_nil, List.length_singleton, reduceCtorEq, Int.toNat_natCast, decide_true, decide_false, Nat.zero_add, Nat.add_zero, Int.add_sub_cancel, eq_self, not_true_eq_false, not_false_eq_true, hget_push_one, hget_push_lt, hget_push_gt, hget_set_ne, storeA_new, storeB_some, one_int, one_bool, one_string, one_slice, one_pointer, lget_map, gc_int, gc_bool, gc_string, gc_nil_int, gc_int_int, gc_string_int, idxStr_in, len_string, q_s2b, s_s2b, s2b_string, box_agg, fldA_new, loadAgg_new, loadN_some, ltake_zero, ltake_succ, List.drop_zero, List.drop_succ_cons, Option.some.injEq, Prod.mk.injEq, c25l0, hr.idx, hr.load, word_p w _ l[k]! hsk, index_p w _ hr hm l[k]!, hw]) | (refine does_goI_dec (fun _ => ?_) (fun _ => ?_)) | (refine does_goG_dec (fun _ => ?_) (fun _ => ?_)) | (refine does_goI (fun _ => ?_) (fun _ => ?_)) | (refine does_goG (fun _ => ?_) (fun _ => ?_)))
        refine ⟨_, ?_, k + 1, _, _, rfl, hlt, ?_, hf2, hg2⟩
        · omega
        · simp
    · have : k = l.length := by omega
      subst this
      repeat' (first | (simp (disch := first | omega | assumption | exact callP_old _ _ _ _ _ | exact one_int _ _ | exact one_bool _ | exact one_string _ | exact one_slice _ _ _ | exact one_pointer _ | exact hget_push_one _ _ _ _ (by omega) | (simp only [List.length_map, List.length_set, List.length_replicate]; omega) | (rw [hget_push_lt _ _ _ _ (by omega)]; first | assumption | exact hget_push_one _ _ _ _ (by omega))) only [runK_nil, runK_seq, runK_seq_exit, runK_seq_ret, runK_block_normal, runK_block_exit, runK_block_ret, go_skip, go_ret, go_exit, go_seq, go_block, go_ops, goO_nil, goO_cons, goV_some, goO_guard, goG_yes, goG_tf, goG_ft, goG_tuple, goPG_tuple, go_cond, goI_true, goI_false, go_draw, goP_nil, goP_cons, goPV_some, goP_guard, goPG_yes, goPG_tf, goPG_ft, does_some, loopP_normal, loopP_exit, loopP_ret, contE_eq, contR_eq, row0, row1, row2, row3, expand_one, replicate_int, replicate_bool, mkSlice_one, idxS_new, idxA_new, len_slice, hget_set_self, Option.map_some, set_int, set_bool, get_set_eq, get_set_ne, op1_some, op2_some, ret1_some, retP_some, retB_some, push_eq, pickX_true, pickX_false, callR_some, callR_none, callX_some, callY_some, slcSX_some, slcX_some, slcAX_some, s_mov, s_pick, s_alloc, s_box, s_build, s_mkRow, s_load, s_nilChk, s_bin, s_eqB, s_eqNil, s_un, s_convI, s_convS, s_b2s, s_mkSlice, s_slcS, s_slc, s_slcA, s_fldA, s_fldV, s_idxS, s_idxA, s_idxStr, s_idxV, s_ext, s_mkFn, s_mkIf, s_len, s_mm, s_cap, s_eqIf, s_callF, s_callV, s_app, s_store, s_copy, q_mov, q_pick, q_alloc, q_box, q_build, q_mkRow, q_load, q_nilChk, q_bin, q_eqB, q_eqNil, q_un, q_convI, q_convS, q_b2s, q_mkSlice, q_slcS, q_slc, q_slcA, q_fldA, q_fldV, q_idxS, q_idxA, q_idxStr, q_idxV, q_ext, q_mkFn, q_mkIf, q_len, q_mm, q_callF, q_cap, q_eqIf, evs_nil, consO_some, evs_cons, evO_none, mapO_some, evO_some, evParts_nil, consP_some, evParts_cons, hiddenHeap_nil, hiddenHeap_true, hiddenHeap_false, hiddenHeap_all, hpush_nil, ev_tmp, ev_const, fget_cons', fput_nil, fput_cons', fputO_some, fputO_none, elemB_nil, elemB_cons', fkeep_nil, fkeep_cons', args0, slotsL, opdsA, List.cons_append, List.nil_append, List.map_cons, List.map_nil, List.append_nil, Option.toList_some, Option.toList_none, decide_yes, decide_no, b_lss, b_leq, b_gtr, b_geq, b_eql, b_neq, b_add, b_sub, b_mul, b_quo_pos, b_rem_pos, b_seql, b_sneq, wrap64, u_not, u_neg, not_decide', eqB_f, eqB_t, idxNat_in, mm_max, mm_min, convI_int, ext_tuple, lget_zero, lget_succ, loadA_old, aload_old, callP_old, callP_rounds, gcO_some, retE_ret, retE_normal, Value.int.injEq, Value.bool.injEq, Value.string.injEq, true_and, and_true, and_self, retP_ret, retP_normal, retX_some, retW_ret, retW_normal, retWX_some, resOf_nil, resOf_tmp, resOf_cell, tupleOf_one, tupleOf_two, loadO_new, loadB_some, Nat.reduceEqDiff, Nat.reduceLT, Nat.reduceAdd, Nat.reduceBEq, Int.reduceAdd, Int.reduceSub, Int.reduceLT, Int.reduceLE, Int.reduceEq, Int.reduceNeg, ↓reduceIte, if_true, if_false, Bool.false_eq_true, Bool.not_true, Bool.not_false, List.length_cons, List.length_nil, List.length_singleton, reduceCtorEq, Int.toNat_natCast, decide_true, decide_false, Nat.zero_add, Nat.add_zero, Int.add_sub_cancel, eq_self, not_true_eq_false, not_false_eq_true, hget_push_one, hget_push_lt, hget_push_gt, hget_set_ne, storeA_new, storeB_some, one_int, one_bool, one_string, one_slice, one_pointer, lget_map, gc_int, gc_bool, gc_string, gc_nil_int, gc_int_int, gc_string_int, idxStr_in, len_string, q_s2b, s_s2b, s2b_string, box_agg, fldA_new, loadAgg_new, loadN_some, ltake_zero, ltake_succ, List.drop_zero, List.drop_succ_cons, Option.some.injEq, Prod.mk.injEq, c25l0]) | (refine does_goI_dec (fun _ => ?_) (fun _ => ?_)) | (refine does_goG_dec (fun _ => ?_) (fun _ => ?_)) | (refine does_goI (fun _ => ?_) (fun _ => ?_)) | (refine does_goG (fun _ => ?_) (fun _ => ?_)))
      rw [show f = wordsS l by rw [Bool.eq_iff_iff, hf]; simp [wordsS], show g = twiceS l by rw [Bool.eq_iff_iff, hg]; simp [twiceS]]
      rfl
end Go.Proofs.Yteibgbbfcjgjiaa
