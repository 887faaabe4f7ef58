/- Part of the proof of ThreadNumbersSaid: for every input the law returns true, with no condition.
   Texts: C02, P02a, P02b, P02c.
-/
import Derived.Test.YtkjkiodoighgnaaPart2
import Derived.Test.YtkjkiodoighgnaaProg
/- The seat's functions as the interpreter runs them: written by a program out of the loaded form, and shown equal to it below. -/
namespace Go.Proofs.Ytkjkiodoighgnaa
open Go Go.Itp
set_option maxRecDepth 100000
/- raddle/raddlelaw02.ThreadNumbers -/
def c3l0 : AC :=
  .seq (.seq (.ops [⟨(some 66), none, .mov (.tmp 14)⟩,
          ⟨(some 67), none, .mov (.tmp 6)⟩,
          ⟨(some 68), none, .len false (.tmp 67)⟩,
          ⟨(some 69), none, .bin .lss (.tmp 66) (.tmp 68)⟩] [0, 5, 6, 14, 69])
      (.cond (.tmp 69)
        (.skip)
        (.exit 0)))
      (.seq (.block 1
        (.ops [⟨(some 72), none, .mov (.tmp 6)⟩,
            ⟨(some 73), none, .mov (.tmp 14)⟩,
            ⟨(some 74), none, .idxS 1 (.tmp 72) (.tmp 73)⟩,
            ⟨none, none, .store 1 (.tmp 74) (.const (.int .i64 (-5)))⟩] [0, 5, 6, 14]))
      (.ops [⟨(some 70), none, .mov (.tmp 14)⟩,
          ⟨(some 71), none, .bin .add (.tmp 70) (.const (.int .i64 1))⟩,
          ⟨(some 14), none, .mov (.tmp 71)⟩] [0, 5, 6, 14]))
def c3 : AFun := ⟨
  .seq (.ops [⟨(some 4), none, .mov (.const (.bool false))⟩] [0, 1])
  (.seq (.seq (.ops [⟨(some 15), none, .mov (.tmp 0)⟩,
      ⟨(some 16), none, .callF 5 [(.tmp 15)]⟩,
      ⟨(some 17), none, .mov (.tmp 16)⟩,
      ⟨(some 18), (some (17, false)), .mov (.tmp 1)⟩,
      ⟨(some 19), (some (17, false)), .callF 5 [(.tmp 18)]⟩,
      ⟨(some 20), none, .pick (.tmp 17) (.const (.bool true)) (.tmp 19)⟩] [0, 1, 20])
  (.cond (.tmp 20)
    (.seq (.ops [⟨(some 4), none, .mov (.const (.bool true))⟩] [4])
    (.ret))
    (.skip)))
  (.seq (.ops [⟨(some 21), none, .mkRow 3 1 0 [(.int .i64 0)] []⟩,
      ⟨(some 22), none, .mov (.tmp 0)⟩,
      ⟨(some 23), none, .app 3 1 8 (.tmp 21) (.tmp 22)⟩,
      ⟨(some 5), none, .mov (.tmp 23)⟩] [0, 1, 5])
  (.seq (.ops [⟨(some 25), none, .mov (.tmp 0)⟩,
      ⟨(some 26), none, .callF 6 [(.tmp 25)]⟩,
      ⟨(some 24), none, .mov (.tmp 26)⟩,
      ⟨(some 27), none, .ext (.tmp 24) 0⟩,
      ⟨(some 28), none, .ext (.tmp 24) 1⟩,
      ⟨(some 6), none, .mov (.tmp 27)⟩,
      ⟨(some 7), none, .mov (.tmp 28)⟩] [0, 1, 5, 6, 7])
  (.seq (.ops [⟨(some 30), none, .mov (.tmp 0)⟩,
      ⟨(some 31), none, .callF 7 [(.tmp 30)]⟩,
      ⟨(some 29), none, .mov (.tmp 31)⟩,
      ⟨(some 32), none, .ext (.tmp 29) 0⟩,
      ⟨(some 33), none, .ext (.tmp 29) 1⟩,
      ⟨(some 8), none, .mov (.tmp 32)⟩,
      ⟨(some 9), none, .mov (.tmp 33)⟩] [0, 1, 5, 6, 7, 8, 9])
  (.seq (.ops [⟨(some 35), none, .mov (.tmp 0)⟩,
      ⟨(some 36), none, .mov (.tmp 1)⟩,
      ⟨(some 37), none, .callF 8 [(.tmp 35), (.tmp 36)]⟩,
      ⟨(some 34), none, .mov (.tmp 37)⟩,
      ⟨(some 38), none, .ext (.tmp 34) 0⟩,
      ⟨(some 39), none, .ext (.tmp 34) 1⟩,
      ⟨(some 10), none, .mov (.tmp 38)⟩,
      ⟨(some 11), none, .mov (.tmp 39)⟩] [0, 1, 5, 6, 7, 8, 9, 10, 11])
  (.seq (.ops [⟨(some 41), none, .mov (.tmp 0)⟩,
      ⟨(some 42), none, .mov (.tmp 1)⟩,
      ⟨(some 43), none, .callF 9 [(.tmp 41), (.tmp 42)]⟩,
      ⟨(some 40), none, .mov (.tmp 43)⟩,
      ⟨(some 44), none, .ext (.tmp 40) 0⟩,
      ⟨(some 45), none, .ext (.tmp 40) 1⟩,
      ⟨(some 12), none, .mov (.tmp 44)⟩,
      ⟨(some 13), none, .mov (.tmp 45)⟩] [0, 5, 6, 7, 8, 9, 10, 11, 12, 13])
  (.seq (.seq (.ops [⟨(some 46), none, .mov (.tmp 6)⟩,
      ⟨(some 47), none, .mov (.tmp 8)⟩,
      ⟨(some 48), none, .callF 10 [(.tmp 46), (.tmp 47)]⟩,
      ⟨(some 49), none, .un .not (.tmp 48)⟩,
      ⟨(some 50), none, .mov (.tmp 49)⟩,
      ⟨(some 51), (some (50, false)), .mov (.tmp 7)⟩,
      ⟨(some 52), (some (50, false)), .mov (.tmp 9)⟩,
      ⟨(some 53), (some (50, false)), .bin .neq (.tmp 51) (.tmp 52)⟩,
      ⟨(some 54), none, .pick (.tmp 50) (.const (.bool true)) (.tmp 53)⟩,
      ⟨(some 55), none, .mov (.tmp 54)⟩,
      ⟨(some 56), (some (55, false)), .mov (.tmp 10)⟩,
      ⟨(some 57), (some (55, false)), .mov (.tmp 12)⟩,
      ⟨(some 58), (some (55, false)), .callF 10 [(.tmp 56), (.tmp 57)]⟩,
      ⟨(some 59), (some (55, false)), .un .not (.tmp 58)⟩,
      ⟨(some 60), none, .pick (.tmp 55) (.const (.bool true)) (.tmp 59)⟩,
      ⟨(some 61), none, .mov (.tmp 60)⟩,
      ⟨(some 62), (some (61, false)), .mov (.tmp 11)⟩,
      ⟨(some 63), (some (61, false)), .mov (.tmp 13)⟩,
      ⟨(some 64), (some (61, false)), .bin .neq (.tmp 62) (.tmp 63)⟩,
      ⟨(some 65), none, .pick (.tmp 61) (.const (.bool true)) (.tmp 64)⟩] [0, 5, 6, 65])
  (.cond (.tmp 65)
    (.seq (.ops [⟨(some 4), none, .mov (.const (.bool false))⟩] [4])
    (.ret))
    (.skip)))
  (.seq (.seq (.ops [⟨(some 14), none, .mov (.const (.int .i64 0))⟩] [0, 5, 6, 14])
  (.block 0
    (.loop [0, 5, 6, 14]
      c3l0)))
  (.seq (.ops [⟨(some 75), none, .mov (.tmp 0)⟩,
      ⟨(some 76), none, .mov (.tmp 5)⟩,
      ⟨(some 77), none, .callF 10 [(.tmp 75), (.tmp 76)]⟩,
      ⟨(some 4), none, .mov (.tmp 77)⟩] [4])
  (.ret)))))))))),
  78, [(4, none)], true⟩
/- raddle/raddlelaw02.ThreadMakes -/
def c4l0 : AC :=
  .seq (.seq (.ops [⟨(some 161), none, .mov (.tmp 31)⟩,
          ⟨(some 162), none, .mov (.tmp 26)⟩,
          ⟨(some 163), none, .len false (.tmp 162)⟩,
          ⟨(some 164), none, .bin .lss (.tmp 161) (.tmp 163)⟩] [0, 9, 26, 31, 164])
      (.cond (.tmp 164)
        (.skip)
        (.exit 2)))
      (.seq (.block 3
        (.ops [⟨(some 167), none, .mov (.tmp 26)⟩,
            ⟨(some 168), none, .mov (.tmp 31)⟩,
            ⟨(some 169), none, .idxS 1 (.tmp 167) (.tmp 168)⟩,
            ⟨none, none, .store 1 (.tmp 169) (.const (.int .i64 (-5)))⟩] [0, 9, 26, 31]))
      (.ops [⟨(some 165), none, .mov (.tmp 31)⟩,
          ⟨(some 166), none, .bin .add (.tmp 165) (.const (.int .i64 1))⟩,
          ⟨(some 31), none, .mov (.tmp 166)⟩] [0, 9, 26, 31]))
def c4l1 : AC :=
  .seq (.seq (.ops [⟨(some 152), none, .mov (.tmp 30)⟩,
          ⟨(some 153), none, .mov (.tmp 18)⟩,
          ⟨(some 154), none, .len false (.tmp 153)⟩,
          ⟨(some 155), none, .bin .lss (.tmp 152) (.tmp 154)⟩] [0, 9, 18, 26, 30, 155])
      (.cond (.tmp 155)
        (.skip)
        (.exit 0)))
      (.seq (.block 1
        (.ops [⟨(some 158), none, .mov (.tmp 18)⟩,
            ⟨(some 159), none, .mov (.tmp 30)⟩,
            ⟨(some 160), none, .idxS 1 (.tmp 158) (.tmp 159)⟩,
            ⟨none, none, .store 1 (.tmp 160) (.const (.int .i64 (-5)))⟩] [0, 9, 18, 26, 30]))
      (.ops [⟨(some 156), none, .mov (.tmp 30)⟩,
          ⟨(some 157), none, .bin .add (.tmp 156) (.const (.int .i64 1))⟩,
          ⟨(some 30), none, .mov (.tmp 157)⟩] [0, 9, 18, 26, 30]))
def c4 : AFun := ⟨
  .seq (.ops [⟨(some 8), none, .mov (.const (.bool false))⟩] [0, 1, 2, 3])
  (.seq (.seq (.ops [⟨(some 32), none, .mov (.tmp 0)⟩,
      ⟨(some 33), none, .callF 5 [(.tmp 32)]⟩,
      ⟨(some 34), none, .mov (.tmp 33)⟩,
      ⟨(some 35), (some (34, false)), .mov (.tmp 1)⟩,
      ⟨(some 36), (some (34, false)), .callF 5 [(.tmp 35)]⟩,
      ⟨(some 37), none, .pick (.tmp 34) (.const (.bool true)) (.tmp 36)⟩] [0, 1, 2, 3, 37])
  (.cond (.tmp 37)
    (.seq (.ops [⟨(some 8), none, .mov (.const (.bool true))⟩] [8])
    (.ret))
    (.skip)))
  (.seq (.ops [⟨(some 38), none, .mkRow 3 1 0 [(.int .i64 0)] []⟩,
      ⟨(some 39), none, .mov (.tmp 0)⟩,
      ⟨(some 40), none, .app 3 1 8 (.tmp 38) (.tmp 39)⟩,
      ⟨(some 9), none, .mov (.tmp 40)⟩] [0, 1, 2, 3, 9])
  (.seq (.ops [⟨(some 42), none, .mov (.tmp 2)⟩,
      ⟨(some 43), none, .mov (.tmp 3)⟩,
      ⟨(some 44), none, .callF 11 [(.tmp 42), (.tmp 43)]⟩,
      ⟨(some 41), none, .mov (.tmp 44)⟩,
      ⟨(some 45), none, .ext (.tmp 41) 0⟩,
      ⟨(some 46), none, .ext (.tmp 41) 1⟩,
      ⟨(some 10), none, .mov (.tmp 45)⟩,
      ⟨(some 11), none, .mov (.tmp 46)⟩] [0, 1, 2, 3, 9, 10, 11])
  (.seq (.ops [⟨(some 48), none, .mov (.tmp 2)⟩,
      ⟨(some 49), none, .mov (.tmp 3)⟩,
      ⟨(some 50), none, .callF 12 [(.tmp 48), (.tmp 49)]⟩,
      ⟨(some 47), none, .mov (.tmp 50)⟩,
      ⟨(some 51), none, .ext (.tmp 47) 0⟩,
      ⟨(some 52), none, .ext (.tmp 47) 1⟩,
      ⟨(some 12), none, .mov (.tmp 51)⟩,
      ⟨(some 13), none, .mov (.tmp 52)⟩] [0, 1, 2, 3, 9, 10, 11, 12, 13])
  (.seq (.ops [⟨(some 54), none, .mov (.tmp 2)⟩,
      ⟨(some 55), none, .mov (.tmp 3)⟩,
      ⟨(some 56), none, .callF 13 [(.tmp 54), (.tmp 55)]⟩,
      ⟨(some 53), none, .mov (.tmp 56)⟩,
      ⟨(some 57), none, .ext (.tmp 53) 0⟩,
      ⟨(some 58), none, .ext (.tmp 53) 1⟩,
      ⟨(some 14), none, .mov (.tmp 57)⟩,
      ⟨(some 15), none, .mov (.tmp 58)⟩] [0, 1, 2, 3, 9, 10, 11, 12, 13, 14, 15])
  (.seq (.ops [⟨(some 60), none, .mov (.tmp 2)⟩,
      ⟨(some 61), none, .mov (.tmp 3)⟩,
      ⟨(some 62), none, .callF 14 [(.tmp 60), (.tmp 61)]⟩,
      ⟨(some 59), none, .mov (.tmp 62)⟩,
      ⟨(some 63), none, .ext (.tmp 59) 0⟩,
      ⟨(some 64), none, .ext (.tmp 59) 1⟩,
      ⟨(some 16), none, .mov (.tmp 63)⟩,
      ⟨(some 17), none, .mov (.tmp 64)⟩] [0, 1, 2, 9, 10, 11, 12, 13, 14, 15, 16, 17])
  (.seq (.ops [⟨(some 66), none, .mov (.tmp 0)⟩,
      ⟨(some 67), none, .mov (.tmp 1)⟩,
      ⟨(some 68), none, .callF 15 [(.tmp 66), (.tmp 67)]⟩,
      ⟨(some 65), none, .mov (.tmp 68)⟩,
      ⟨(some 69), none, .ext (.tmp 65) 0⟩,
      ⟨(some 70), none, .ext (.tmp 65) 1⟩,
      ⟨(some 18), none, .mov (.tmp 69)⟩,
      ⟨(some 19), none, .mov (.tmp 70)⟩] [0, 1, 2, 9, 10, 11, 12, 13, 14, 15, 16, 17, 18, 19])
  (.seq (.ops [⟨(some 72), none, .mov (.tmp 0)⟩,
      ⟨(some 73), none, .mov (.tmp 1)⟩,
      ⟨(some 74), none, .callF 16 [(.tmp 72), (.tmp 73)]⟩,
      ⟨(some 71), none, .mov (.tmp 74)⟩,
      ⟨(some 75), none, .ext (.tmp 71) 0⟩,
      ⟨(some 76), none, .ext (.tmp 71) 1⟩,
      ⟨(some 20), none, .mov (.tmp 75)⟩,
      ⟨(some 21), none, .mov (.tmp 76)⟩] [0, 2, 9, 10, 11, 12, 13, 14, 15, 16, 17, 18, 19, 20, 21])
  (.seq (.ops [⟨(some 78), none, .mov (.tmp 0)⟩,
      ⟨(some 79), none, .mov (.tmp 2)⟩,
      ⟨(some 80), none, .callF 17 [(.tmp 78), (.tmp 79)]⟩,
      ⟨(some 77), none, .mov (.tmp 80)⟩,
      ⟨(some 81), none, .ext (.tmp 77) 0⟩,
      ⟨(some 82), none, .ext (.tmp 77) 1⟩,
      ⟨(some 22), none, .mov (.tmp 81)⟩,
      ⟨(some 23), none, .mov (.tmp 82)⟩] [0, 2, 9, 10, 11, 12, 13, 14, 15, 16, 17, 18, 19, 20, 21, 22, 23])
  (.seq (.ops [⟨(some 84), none, .mov (.tmp 0)⟩,
      ⟨(some 85), none, .mov (.tmp 2)⟩,
      ⟨(some 86), none, .callF 18 [(.tmp 84), (.tmp 85)]⟩,
      ⟨(some 83), none, .mov (.tmp 86)⟩,
      ⟨(some 87), none, .ext (.tmp 83) 0⟩,
      ⟨(some 88), none, .ext (.tmp 83) 1⟩,
      ⟨(some 24), none, .mov (.tmp 87)⟩,
      ⟨(some 25), none, .mov (.tmp 88)⟩] [0, 9, 10, 11, 12, 13, 14, 15, 16, 17, 18, 19, 20, 21, 22, 23, 24, 25])
  (.seq (.ops [⟨(some 90), none, .mov (.tmp 0)⟩,
      ⟨(some 91), none, .callF 19 [(.tmp 90)]⟩,
      ⟨(some 89), none, .mov (.tmp 91)⟩,
      ⟨(some 92), none, .ext (.tmp 89) 0⟩,
      ⟨(some 93), none, .ext (.tmp 89) 1⟩,
      ⟨(some 26), none, .mov (.tmp 92)⟩,
      ⟨(some 27), none, .mov (.tmp 93)⟩] [0, 9, 10, 11, 12, 13, 14, 15, 16, 17, 18, 19, 20, 21, 22, 23, 24, 25, 26, 27])
  (.seq (.ops [⟨(some 95), none, .mov (.tmp 0)⟩,
      ⟨(some 96), none, .callF 20 [(.tmp 95)]⟩,
      ⟨(some 94), none, .mov (.tmp 96)⟩,
      ⟨(some 97), none, .ext (.tmp 94) 0⟩,
      ⟨(some 98), none, .ext (.tmp 94) 1⟩,
      ⟨(some 28), none, .mov (.tmp 97)⟩,
      ⟨(some 29), none, .mov (.tmp 98)⟩] [0, 9, 10, 11, 12, 13, 14, 15, 16, 17, 18, 19, 20, 21, 22, 23, 24, 25, 26, 27, 28, 29])
  (.seq (.seq (.ops [⟨(some 99), none, .mov (.tmp 10)⟩,
      ⟨(some 100), none, .mov (.tmp 12)⟩,
      ⟨(some 101), none, .callF 10 [(.tmp 99), (.tmp 100)]⟩,
      ⟨(some 102), none, .un .not (.tmp 101)⟩,
      ⟨(some 103), none, .mov (.tmp 102)⟩,
      ⟨(some 104), (some (103, false)), .mov (.tmp 11)⟩,
      ⟨(some 105), (some (103, false)), .mov (.tmp 13)⟩,
      ⟨(some 106), (some (103, false)), .bin .neq (.tmp 104) (.tmp 105)⟩,
      ⟨(some 107), none, .pick (.tmp 103) (.const (.bool true)) (.tmp 106)⟩,
      ⟨(some 108), none, .mov (.tmp 107)⟩,
      ⟨(some 109), (some (108, false)), .mov (.tmp 14)⟩,
      ⟨(some 110), (some (108, false)), .mov (.tmp 16)⟩,
      ⟨(some 111), (some (108, false)), .callF 10 [(.tmp 109), (.tmp 110)]⟩,
      ⟨(some 112), (some (108, false)), .un .not (.tmp 111)⟩,
      ⟨(some 113), none, .pick (.tmp 108) (.const (.bool true)) (.tmp 112)⟩,
      ⟨(some 114), none, .mov (.tmp 113)⟩,
      ⟨(some 115), (some (114, false)), .mov (.tmp 15)⟩,
      ⟨(some 116), (some (114, false)), .mov (.tmp 17)⟩,
      ⟨(some 117), (some (114, false)), .bin .neq (.tmp 115) (.tmp 116)⟩,
      ⟨(some 118), none, .pick (.tmp 114) (.const (.bool true)) (.tmp 117)⟩,
      ⟨(some 119), none, .mov (.tmp 118)⟩,
      ⟨(some 120), (some (119, false)), .mov (.tmp 18)⟩,
      ⟨(some 121), (some (119, false)), .mov (.tmp 20)⟩,
      ⟨(some 122), (some (119, false)), .callF 10 [(.tmp 120), (.tmp 121)]⟩,
      ⟨(some 123), (some (119, false)), .un .not (.tmp 122)⟩,
      ⟨(some 124), none, .pick (.tmp 119) (.const (.bool true)) (.tmp 123)⟩,
      ⟨(some 125), none, .mov (.tmp 124)⟩,
      ⟨(some 126), (some (125, false)), .mov (.tmp 19)⟩,
      ⟨(some 127), (some (125, false)), .mov (.tmp 21)⟩,
      ⟨(some 128), (some (125, false)), .bin .neq (.tmp 126) (.tmp 127)⟩,
      ⟨(some 129), none, .pick (.tmp 125) (.const (.bool true)) (.tmp 128)⟩,
      ⟨(some 130), none, .mov (.tmp 129)⟩,
      ⟨(some 131), (some (130, false)), .mov (.tmp 22)⟩,
      ⟨(some 132), (some (130, false)), .mov (.tmp 24)⟩,
      ⟨(some 133), (some (130, false)), .callF 10 [(.tmp 131), (.tmp 132)]⟩,
      ⟨(some 134), (some (130, false)), .un .not (.tmp 133)⟩,
      ⟨(some 135), none, .pick (.tmp 130) (.const (.bool true)) (.tmp 134)⟩,
      ⟨(some 136), none, .mov (.tmp 135)⟩,
      ⟨(some 137), (some (136, false)), .mov (.tmp 23)⟩,
      ⟨(some 138), (some (136, false)), .mov (.tmp 25)⟩,
      ⟨(some 139), (some (136, false)), .bin .neq (.tmp 137) (.tmp 138)⟩,
      ⟨(some 140), none, .pick (.tmp 136) (.const (.bool true)) (.tmp 139)⟩,
      ⟨(some 141), none, .mov (.tmp 140)⟩,
      ⟨(some 142), (some (141, false)), .mov (.tmp 26)⟩,
      ⟨(some 143), (some (141, false)), .mov (.tmp 28)⟩,
      ⟨(some 144), (some (141, false)), .callF 10 [(.tmp 142), (.tmp 143)]⟩,
      ⟨(some 145), (some (141, false)), .un .not (.tmp 144)⟩,
      ⟨(some 146), none, .pick (.tmp 141) (.const (.bool true)) (.tmp 145)⟩,
      ⟨(some 147), none, .mov (.tmp 146)⟩,
      ⟨(some 148), (some (147, false)), .mov (.tmp 27)⟩,
      ⟨(some 149), (some (147, false)), .mov (.tmp 29)⟩,
      ⟨(some 150), (some (147, false)), .bin .neq (.tmp 148) (.tmp 149)⟩,
      ⟨(some 151), none, .pick (.tmp 147) (.const (.bool true)) (.tmp 150)⟩] [0, 9, 18, 26, 151])
  (.cond (.tmp 151)
    (.seq (.ops [⟨(some 8), none, .mov (.const (.bool false))⟩] [8])
    (.ret))
    (.skip)))
  (.seq (.seq (.ops [⟨(some 30), none, .mov (.const (.int .i64 0))⟩] [0, 9, 18, 26, 30])
  (.block 0
    (.loop [0, 9, 18, 26, 30]
      c4l1)))
  (.seq (.seq (.ops [⟨(some 31), none, .mov (.const (.int .i64 0))⟩] [0, 9, 26, 31])
  (.block 2
    (.loop [0, 9, 26, 31]
      c4l0)))
  (.seq (.ops [⟨(some 170), none, .mov (.tmp 0)⟩,
      ⟨(some 171), none, .mov (.tmp 9)⟩,
      ⟨(some 172), none, .callF 10 [(.tmp 170), (.tmp 171)]⟩,
      ⟨(some 8), none, .mov (.tmp 172)⟩] [8])
  (.ret))))))))))))))))),
  173, [(8, none)], true⟩
/- raddle/raddleref02.Great -/
def c5 : AFun := ⟨
  .seq (.ops [⟨(some 2), none, .mov (.const (.bool false))⟩] [0])
  (.seq (.ops [⟨(some 3), none, .mov (.tmp 0)⟩,
      ⟨(some 4), none, .len false (.tmp 3)⟩,
      ⟨(some 5), none, .bin .gtr (.tmp 4) (.const (.int .i64 60))⟩,
      ⟨(some 6), none, .mov (.tmp 5)⟩,
      ⟨(some 7), (some (6, true)), .mov (.tmp 0)⟩,
      ⟨(some 8), (some (6, true)), .len false (.tmp 7)⟩,
      ⟨(some 9), (some (6, true)), .bin .leq (.tmp 8) (.const (.int .i64 400))⟩,
      ⟨(some 10), none, .pick (.tmp 6) (.tmp 9) (.const (.bool false))⟩,
      ⟨(some 11), none, .mov (.tmp 10)⟩,
      ⟨(some 12), (some (11, false)), .mov (.tmp 0)⟩,
      ⟨(some 13), (some (11, false)), .len false (.tmp 12)⟩,
      ⟨(some 14), (some (11, false)), .bin .gtr (.tmp 13) (.const (.int .i64 420))⟩,
      ⟨(some 15), none, .pick (.tmp 11) (.const (.bool true)) (.tmp 14)⟩,
      ⟨(some 2), none, .mov (.tmp 15)⟩] [2])
  (.ret)),
  16, [(2, none)], true⟩
/- raddle/thread.Renumber -/
def c6l0 : AC :=
  .seq (.ops [⟨(some 22), none, .bin .lss (.tmp 21) (.tmp 20)⟩] [5, 6, 7, 19, 20, 21, 22])
      (.seq (.cond (.tmp 22)
        (.skip)
        (.exit 0))
      (.seq (.block 1
        (.seq (.ops [⟨(some 23), none, .mov (.tmp 21)⟩,
            ⟨(some 24), none, .idxS 1 (.tmp 19) (.tmp 21)⟩,
            ⟨(some 25), none, .load none (.tmp 24)⟩,
            ⟨(some 8), none, .mov (.tmp 23)⟩,
            ⟨(some 9), none, .mov (.tmp 25)⟩] [5, 6, 7, 8, 9, 19, 20, 21])
        (.seq (.seq (.ops [⟨(some 26), none, .mov (.tmp 9)⟩,
            ⟨(some 27), none, .idxA 400 1 (.tmp 5) (.tmp 26)⟩,
            ⟨(some 28), none, .load none (.tmp 27)⟩,
            ⟨(some 29), none, .bin .eql (.tmp 28) (.const (.int .i64 0))⟩] [5, 6, 7, 8, 9, 19, 20, 21, 29])
        (.cond (.tmp 29)
          (.seq (.ops [⟨(some 30), none, .mov (.tmp 6)⟩,
              ⟨(some 31), none, .bin .add (.tmp 30) (.const (.int .i64 1))⟩,
              ⟨(some 6), none, .mov (.tmp 31)⟩] [5, 6, 7, 8, 9, 19, 20, 21])
          (.ops [⟨(some 32), none, .mov (.tmp 9)⟩,
              ⟨(some 33), none, .mov (.tmp 6)⟩,
              ⟨(some 34), none, .idxA 400 1 (.tmp 5) (.tmp 32)⟩,
              ⟨none, none, .store 1 (.tmp 34) (.tmp 33)⟩] [5, 6, 7, 8, 9, 19, 20, 21]))
          (.skip)))
        (.ops [⟨(some 35), none, .mov (.tmp 7)⟩,
            ⟨(some 36), none, .mov (.tmp 8)⟩,
            ⟨(some 37), none, .mov (.tmp 9)⟩,
            ⟨(some 38), none, .idxA 400 1 (.tmp 5) (.tmp 37)⟩,
            ⟨(some 39), none, .load none (.tmp 38)⟩,
            ⟨(some 40), none, .bin .sub (.tmp 39) (.const (.int .i64 1))⟩,
            ⟨(some 41), none, .idxS 1 (.tmp 35) (.tmp 36)⟩,
            ⟨none, none, .store 1 (.tmp 41) (.tmp 40)⟩] [5, 6, 7, 19, 20, 21]))))
      (.ops [⟨(some 42), none, .bin .add (.tmp 21) (.const (.int .i64 1))⟩,
          ⟨(some 21), none, .mov (.tmp 42)⟩] [5, 6, 7, 19, 20, 21])))
def c6 : AFun := ⟨
  .seq (.ops [⟨(some 2), none, .mov (.const (.slice none 0 0))⟩,
      ⟨(some 3), none, .mov (.const (.int .i64 0))⟩] [0])
  (.seq (.seq (.ops [⟨(some 10), none, .mov (.tmp 0)⟩,
      ⟨(some 11), none, .mkRow 22 1 1 [(.slice none 0 0)] [(0, 1, (.tmp 10))]⟩,
      ⟨(some 12), none, .callF 21 [(.tmp 11)]⟩,
      ⟨(some 4), none, .mov (.tmp 12)⟩] [0, 4])
  (.seq (.ops [⟨(some 13), none, .mov (.tmp 4)⟩,
      ⟨(some 14), none, .bin .neq (.tmp 13) (.const (.int .i64 0))⟩] [0, 4, 14])
  (.cond (.tmp 14)
    (.seq (.ops [⟨(some 15), none, .mov (.tmp 4)⟩,
        ⟨(some 2), none, .mov (.const (.slice none 0 0))⟩,
        ⟨(some 3), none, .mov (.tmp 15)⟩] [2, 3])
    (.ret))
    (.skip))))
  (.seq (.ops [⟨(some 5), none, .alloc 38 [(400, (.int .i64 0))]⟩] [0, 5])
  (.seq (.ops [⟨(some 6), none, .mov (.const (.int .i64 0))⟩] [0, 5, 6])
  (.seq (.ops [⟨(some 16), none, .mov (.tmp 0)⟩,
      ⟨(some 17), none, .len false (.tmp 16)⟩,
      ⟨(some 18), none, .mkSlice 3 1 8 [(.int .i64 0)] (.tmp 17) (.tmp 17)⟩,
      ⟨(some 7), none, .mov (.tmp 18)⟩] [0, 5, 6, 7])
  (.seq (.seq (.ops [⟨(some 19), none, .mov (.tmp 0)⟩,
      ⟨(some 20), none, .len false (.tmp 19)⟩,
      ⟨(some 21), none, .mov (.const (.int .i64 0))⟩] [5, 6, 7, 19, 20, 21])
  (.block 0
    (.loop [5, 6, 7, 19, 20, 21]
      c6l0)))
  (.seq (.ops [⟨(some 43), none, .mov (.tmp 7)⟩,
      ⟨(some 2), none, .mov (.tmp 43)⟩,
      ⟨(some 3), none, .mov (.const (.int .i64 0))⟩] [2, 3])
  (.ret))))))),
  44, [(2, none), (3, none)], true⟩
/- raddle/raddleref02.Renumber -/
def c7 : AFun := ⟨
  .seq (.ops [⟨(some 2), none, .mov (.const (.slice none 0 0))⟩,
      ⟨(some 3), none, .mov (.const (.int .i64 0))⟩] [0])
  (.seq (.seq (.ops [⟨(some 6), none, .mov (.tmp 0)⟩,
      ⟨(some 7), none, .callF 22 [(.tmp 6)]⟩,
      ⟨(some 8), none, .bin .neq (.tmp 7) (.const (.int .i64 0))⟩] [0, 8])
  (.cond (.tmp 8)
    (.seq (.ops [⟨(some 9), none, .mov (.tmp 0)⟩,
        ⟨(some 10), none, .callF 22 [(.tmp 9)]⟩,
        ⟨(some 2), none, .mov (.const (.slice none 0 0))⟩,
        ⟨(some 3), none, .mov (.tmp 10)⟩] [2, 3])
    (.ret))
    (.skip)))
  (.seq (.ops [⟨(some 12), none, .mov (.tmp 0)⟩,
      ⟨(some 13), none, .callF 23 [(.tmp 12)]⟩,
      ⟨(some 11), none, .mov (.tmp 13)⟩,
      ⟨(some 14), none, .ext (.tmp 11) 0⟩,
      ⟨(some 15), none, .ext (.tmp 11) 1⟩,
      ⟨(some 4), none, .mov (.tmp 14)⟩,
      ⟨(some 5), none, .mov (.tmp 15)⟩] [4])
  (.seq (.ops [⟨(some 16), none, .mov (.tmp 4)⟩,
      ⟨(some 2), none, .mov (.tmp 16)⟩,
      ⟨(some 3), none, .mov (.const (.int .i64 0))⟩] [2, 3])
  (.ret)))),
  17, [(2, none), (3, none)], true⟩
/- raddle/thread.Match -/
def c8l0 : AC :=
  .seq (.ops [⟨(some 43), none, .bin .lss (.tmp 42) (.tmp 41)⟩] [1, 7, 9, 40, 41, 42, 43])
      (.seq (.cond (.tmp 43)
        (.skip)
        (.exit 2))
      (.seq (.block 3
        (.seq (.ops [⟨(some 44), none, .mov (.tmp 42)⟩,
            ⟨(some 45), none, .idxS 1 (.tmp 40) (.tmp 42)⟩,
            ⟨(some 46), none, .load none (.tmp 45)⟩,
            ⟨(some 10), none, .mov (.tmp 44)⟩,
            ⟨(some 11), none, .mov (.tmp 46)⟩] [1, 7, 9, 10, 11, 40, 41, 42])
        (.block 4
          (.seq (.draw [⟨(some 60), none, .mov (.tmp 7)⟩,
              ⟨(some 61), none, .mov (.tmp 11)⟩,
              ⟨(some 62), none, .idxS 1 (.tmp 60) (.tmp 61)⟩,
              ⟨(some 63), none, .load none (.tmp 62)⟩,
              ⟨(some 64), none, .mov (.tmp 1)⟩,
              ⟨(some 65), none, .mov (.tmp 10)⟩,
              ⟨(some 66), none, .idxS 1 (.tmp 64) (.tmp 65)⟩,
              ⟨(some 67), none, .load none (.tmp 66)⟩] [⟨(some 68), none, .bin .eql (.tmp 63) (.tmp 67)⟩,
              ⟨(some 59), none, .mov (.tmp 68)⟩] [[], [], [], [], [], [], [], []] [1, 7, 9, 10, 11, 40, 41, 42, 59])
          (.cond (.tmp 59)
            (.skip)
            (.seq (.ops [⟨(some 70), none, .mov (.tmp 7)⟩,
                ⟨(some 71), none, .mov (.tmp 11)⟩,
                ⟨(some 72), none, .idxS 1 (.tmp 70) (.tmp 71)⟩,
                ⟨(some 73), none, .load none (.tmp 72)⟩,
                ⟨(some 74), none, .bin .geq (.tmp 73) (.const (.int .i64 0))⟩,
                ⟨(some 75), none, .mov (.tmp 74)⟩,
                ⟨(some 76), (some (75, false)), .mov (.tmp 1)⟩,
                ⟨(some 77), (some (75, false)), .mov (.tmp 10)⟩,
                ⟨(some 78), (some (75, false)), .idxS 1 (.tmp 76) (.tmp 77)⟩,
                ⟨(some 79), (some (75, false)), .load none (.tmp 78)⟩,
                ⟨(some 80), (some (75, false)), .idxA 400 1 (.tmp 9) (.tmp 79)⟩,
                ⟨(some 81), (some (75, false)), .load none (.tmp 80)⟩,
                ⟨(some 82), none, .pick (.tmp 75) (.const (.bool true)) (.tmp 81)⟩,
                ⟨(some 69), none, .mov (.tmp 82)⟩] [1, 7, 9, 10, 11, 40, 41, 42, 69])
            (.cond (.tmp 69)
              (.seq (.ops [⟨(some 4), none, .mov (.const (.slice none 0 0))⟩,
                  ⟨(some 5), none, .mov (.const (.int .i64 6))⟩] [4, 5])
              (.ret))
              (.draw [⟨(some 47), none, .mov (.tmp 7)⟩,
                  ⟨(some 48), none, .mov (.tmp 11)⟩,
                  ⟨(some 49), none, .mov (.tmp 1)⟩,
                  ⟨(some 50), none, .mov (.tmp 10)⟩,
                  ⟨(some 51), none, .idxS 1 (.tmp 49) (.tmp 50)⟩,
                  ⟨(some 52), none, .load none (.tmp 51)⟩,
                  ⟨(some 53), none, .mov (.tmp 1)⟩,
                  ⟨(some 54), none, .mov (.tmp 10)⟩,
                  ⟨(some 55), none, .idxS 1 (.tmp 53) (.tmp 54)⟩,
                  ⟨(some 56), none, .load none (.tmp 55)⟩] [⟨(some 57), none, .idxS 1 (.tmp 47) (.tmp 48)⟩,
                  ⟨none, none, .store 1 (.tmp 57) (.tmp 56)⟩,
                  ⟨(some 58), none, .idxA 400 1 (.tmp 9) (.tmp 52)⟩,
                  ⟨none, none, .store 1 (.tmp 58) (.const (.bool true))⟩] [[], [], [], [], [], [], [], [], [], []] [1, 7, 9, 40, 41, 42]))))))))
      (.ops [⟨(some 83), none, .bin .add (.tmp 42) (.const (.int .i64 1))⟩,
          ⟨(some 42), none, .mov (.tmp 83)⟩] [1, 7, 9, 40, 41, 42])))
def c8l1 : AC :=
  .seq (.ops [⟨(some 34), none, .bin .lss (.tmp 33) (.tmp 32)⟩] [0, 1, 7, 32, 33, 34])
      (.seq (.cond (.tmp 34)
        (.skip)
        (.exit 0))
      (.seq (.block 1
        (.seq (.ops [⟨(some 35), none, .mov (.tmp 33)⟩,
            ⟨(some 8), none, .mov (.tmp 35)⟩] [0, 1, 7, 8, 32, 33])
        (.ops [⟨(some 36), none, .mov (.tmp 7)⟩,
            ⟨(some 37), none, .mov (.tmp 8)⟩,
            ⟨(some 38), none, .idxS 1 (.tmp 36) (.tmp 37)⟩,
            ⟨none, none, .store 1 (.tmp 38) (.const (.int .i64 (-1)))⟩] [0, 1, 7, 32, 33])))
      (.ops [⟨(some 39), none, .bin .add (.tmp 33) (.const (.int .i64 1))⟩,
          ⟨(some 33), none, .mov (.tmp 39)⟩] [0, 1, 7, 32, 33])))
def c8 : AFun := ⟨
  .seq (.ops [⟨(some 4), none, .mov (.const (.slice none 0 0))⟩,
      ⟨(some 5), none, .mov (.const (.int .i64 0))⟩] [0, 1])
  (.seq (.seq (.ops [⟨(some 12), none, .mov (.tmp 0)⟩,
      ⟨(some 13), none, .mov (.tmp 1)⟩,
      ⟨(some 14), none, .mkRow 22 1 2 [(.slice none 0 0)] [(0, 1, (.tmp 12)), (1, 1, (.tmp 13))]⟩,
      ⟨(some 15), none, .callF 21 [(.tmp 14)]⟩,
      ⟨(some 6), none, .mov (.tmp 15)⟩] [0, 1, 6])
  (.seq (.ops [⟨(some 16), none, .mov (.tmp 6)⟩,
      ⟨(some 17), none, .bin .neq (.tmp 16) (.const (.int .i64 0))⟩] [0, 1, 6, 17])
  (.cond (.tmp 17)
    (.seq (.ops [⟨(some 18), none, .mov (.tmp 6)⟩,
        ⟨(some 4), none, .mov (.const (.slice none 0 0))⟩,
        ⟨(some 5), none, .mov (.tmp 18)⟩] [4, 5])
    (.ret))
    (.skip))))
  (.seq (.seq (.ops [⟨(some 19), none, .mov (.tmp 0)⟩,
      ⟨(some 20), none, .len false (.tmp 19)⟩,
      ⟨(some 21), none, .mov (.tmp 1)⟩,
      ⟨(some 22), none, .len false (.tmp 21)⟩,
      ⟨(some 23), none, .bin .neq (.tmp 20) (.tmp 22)⟩] [0, 1, 23])
  (.cond (.tmp 23)
    (.seq (.ops [⟨(some 4), none, .mov (.const (.slice none 0 0))⟩,
        ⟨(some 5), none, .mov (.const (.int .i64 2))⟩] [4, 5])
    (.ret))
    (.skip)))
  (.seq (.seq (.ops [⟨(some 24), none, .mov (.tmp 0)⟩,
      ⟨(some 25), none, .len false (.tmp 24)⟩,
      ⟨(some 26), none, .bin .eql (.tmp 25) (.const (.int .i64 0))⟩] [0, 1, 26])
  (.cond (.tmp 26)
    (.seq (.ops [⟨(some 4), none, .mov (.const (.slice none 0 0))⟩,
        ⟨(some 5), none, .mov (.const (.int .i64 0))⟩] [4, 5])
    (.ret))
    (.skip)))
  (.seq (.ops [⟨(some 27), none, .mov (.tmp 0)⟩,
      ⟨(some 28), none, .callF 24 [(.tmp 27)]⟩,
      ⟨(some 29), none, .bin .add (.tmp 28) (.const (.int .i64 1))⟩,
      ⟨(some 30), none, .mkSlice 3 1 8 [(.int .i64 0)] (.tmp 29) (.tmp 29)⟩,
      ⟨(some 7), none, .mov (.tmp 30)⟩] [0, 1, 7])
  (.seq (.seq (.ops [⟨(some 31), none, .mov (.tmp 7)⟩,
      ⟨(some 32), none, .len false (.tmp 31)⟩,
      ⟨(some 33), none, .mov (.const (.int .i64 0))⟩] [0, 1, 7, 32, 33])
  (.block 0
    (.loop [0, 1, 7, 32, 33]
      c8l1)))
  (.seq (.ops [⟨(some 9), none, .alloc 40 [(400, (.bool false))]⟩] [0, 1, 7, 9])
  (.seq (.seq (.ops [⟨(some 40), none, .mov (.tmp 0)⟩,
      ⟨(some 41), none, .len false (.tmp 40)⟩,
      ⟨(some 42), none, .mov (.const (.int .i64 0))⟩] [1, 7, 9, 40, 41, 42])
  (.block 2
    (.loop [1, 7, 9, 40, 41, 42]
      c8l0)))
  (.seq (.ops [⟨(some 84), none, .mov (.tmp 7)⟩,
      ⟨(some 4), none, .mov (.tmp 84)⟩,
      ⟨(some 5), none, .mov (.const (.int .i64 0))⟩] [4, 5])
  (.ret))))))))),
  85, [(4, none), (5, none)], true⟩
/- raddle/raddleref02.Match -/
def c9l0 : AC :=
  .seq (.seq (.ops [⟨(some 50), none, .mov (.tmp 11)⟩,
                ⟨(some 51), none, .mov (.tmp 10)⟩,
                ⟨(some 52), none, .bin .lss (.tmp 50) (.tmp 51)⟩] [0, 1, 8, 10, 11, 52])
            (.cond (.tmp 52)
              (.skip)
              (.exit 6)))
            (.seq (.block 7
              (.seq (.draw [⟨(some 55), none, .mov (.tmp 0)⟩,
                  ⟨(some 56), none, .mov (.tmp 10)⟩,
                  ⟨(some 57), none, .idxS 1 (.tmp 55) (.tmp 56)⟩,
                  ⟨(some 58), none, .load none (.tmp 57)⟩,
                  ⟨(some 59), none, .mov (.tmp 0)⟩,
                  ⟨(some 60), none, .mov (.tmp 11)⟩,
                  ⟨(some 61), none, .idxS 1 (.tmp 59) (.tmp 60)⟩,
                  ⟨(some 62), none, .load none (.tmp 61)⟩,
                  ⟨(some 63), none, .bin .eql (.tmp 58) (.tmp 62)⟩,
                  ⟨(some 64), none, .mov (.tmp 1)⟩,
                  ⟨(some 65), none, .mov (.tmp 10)⟩,
                  ⟨(some 66), none, .idxS 1 (.tmp 64) (.tmp 65)⟩,
                  ⟨(some 67), none, .load none (.tmp 66)⟩,
                  ⟨(some 68), none, .mov (.tmp 1)⟩,
                  ⟨(some 69), none, .mov (.tmp 11)⟩,
                  ⟨(some 70), none, .idxS 1 (.tmp 68) (.tmp 69)⟩,
                  ⟨(some 71), none, .load none (.tmp 70)⟩,
                  ⟨(some 72), none, .bin .eql (.tmp 67) (.tmp 71)⟩] [⟨(some 73), none, .eqB true (.tmp 63) (.tmp 72)⟩] [[], [], [], [], [], [], [], [], [], [], [], [], [], [], [], [], [], []] [0, 1, 8, 10, 11, 73])
              (.cond (.tmp 73)
                (.seq (.ops [⟨(some 4), none, .mov (.const (.slice none 0 0))⟩,
                    ⟨(some 5), none, .mov (.const (.int .i64 6))⟩] [4, 5])
                (.ret))
                (.skip))))
            (.ops [⟨(some 53), none, .mov (.tmp 11)⟩,
                ⟨(some 54), none, .bin .add (.tmp 53) (.const (.int .i64 1))⟩,
                ⟨(some 11), none, .mov (.tmp 54)⟩] [0, 1, 8, 10, 11]))
def c9l1 : AC :=
  .seq (.seq (.ops [⟨(some 44), none, .mov (.tmp 10)⟩,
          ⟨(some 45), none, .mov (.tmp 0)⟩,
          ⟨(some 46), none, .len false (.tmp 45)⟩,
          ⟨(some 47), none, .bin .lss (.tmp 44) (.tmp 46)⟩] [0, 1, 8, 10, 47])
      (.cond (.tmp 47)
        (.skip)
        (.exit 4)))
      (.seq (.block 5
        (.seq (.seq (.ops [⟨(some 11), none, .mov (.const (.int .i64 0))⟩] [0, 1, 8, 10, 11])
        (.block 6
          (.loop [0, 1, 8, 10, 11]
            c9l0)))
        (.draw [⟨(some 74), none, .mov (.tmp 8)⟩,
            ⟨(some 75), none, .mov (.tmp 0)⟩,
            ⟨(some 76), none, .mov (.tmp 10)⟩,
            ⟨(some 77), none, .idxS 1 (.tmp 75) (.tmp 76)⟩,
            ⟨(some 78), none, .load none (.tmp 77)⟩,
            ⟨(some 79), none, .mov (.tmp 1)⟩,
            ⟨(some 80), none, .mov (.tmp 10)⟩,
            ⟨(some 81), none, .idxS 1 (.tmp 79) (.tmp 80)⟩,
            ⟨(some 82), none, .load none (.tmp 81)⟩] [⟨(some 83), none, .idxS 1 (.tmp 74) (.tmp 78)⟩,
            ⟨none, none, .store 1 (.tmp 83) (.tmp 82)⟩] [[], [], [], [], [], [], [], [], []] [0, 1, 8, 10])))
      (.ops [⟨(some 48), none, .mov (.tmp 10)⟩,
          ⟨(some 49), none, .bin .add (.tmp 48) (.const (.int .i64 1))⟩,
          ⟨(some 10), none, .mov (.tmp 49)⟩] [0, 1, 8, 10]))
def c9l2 : AC :=
  .seq (.seq (.ops [⟨(some 36), none, .mov (.tmp 9)⟩,
          ⟨(some 37), none, .mov (.tmp 6)⟩,
          ⟨(some 38), none, .bin .leq (.tmp 36) (.tmp 37)⟩] [0, 1, 6, 8, 9, 38])
      (.cond (.tmp 38)
        (.skip)
        (.exit 2)))
      (.seq (.block 3
        (.ops [⟨(some 41), none, .mov (.tmp 8)⟩,
            ⟨(some 42), none, .mkRow 3 1 1 [(.int .i64 0)] [(0, 1, (.const (.int .i64 (-1))))]⟩,
            ⟨(some 43), none, .app 3 1 8 (.tmp 41) (.tmp 42)⟩,
            ⟨(some 8), none, .mov (.tmp 43)⟩] [0, 1, 6, 8, 9]))
      (.ops [⟨(some 39), none, .mov (.tmp 9)⟩,
          ⟨(some 40), none, .bin .add (.tmp 39) (.const (.int .i64 1))⟩,
          ⟨(some 9), none, .mov (.tmp 40)⟩] [0, 1, 6, 8, 9]))
def c9l3 : AC :=
  .seq (.seq (.ops [⟨(some 24), none, .mov (.tmp 7)⟩,
          ⟨(some 25), none, .mov (.tmp 0)⟩,
          ⟨(some 26), none, .len false (.tmp 25)⟩,
          ⟨(some 27), none, .bin .lss (.tmp 24) (.tmp 26)⟩] [0, 1, 6, 7, 27])
      (.cond (.tmp 27)
        (.skip)
        (.exit 0)))
      (.seq (.block 1
        (.ops [⟨(some 30), none, .mov (.tmp 6)⟩,
            ⟨(some 31), none, .mov (.tmp 0)⟩,
            ⟨(some 32), none, .mov (.tmp 7)⟩,
            ⟨(some 33), none, .idxS 1 (.tmp 31) (.tmp 32)⟩,
            ⟨(some 34), none, .load none (.tmp 33)⟩,
            ⟨(some 35), none, .mm true (.tmp 30) (.tmp 34)⟩,
            ⟨(some 6), none, .mov (.tmp 35)⟩] [0, 1, 6, 7]))
      (.ops [⟨(some 28), none, .mov (.tmp 7)⟩,
          ⟨(some 29), none, .bin .add (.tmp 28) (.const (.int .i64 1))⟩,
          ⟨(some 7), none, .mov (.tmp 29)⟩] [0, 1, 6, 7]))
def c9 : AFun := ⟨
  .seq (.ops [⟨(some 4), none, .mov (.const (.slice none 0 0))⟩,
      ⟨(some 5), none, .mov (.const (.int .i64 0))⟩] [0, 1])
  (.seq (.seq (.ops [⟨(some 12), none, .mov (.tmp 0)⟩,
      ⟨(some 13), none, .mov (.tmp 1)⟩,
      ⟨(some 14), none, .callF 25 [(.tmp 12), (.tmp 13)]⟩,
      ⟨(some 15), none, .bin .neq (.tmp 14) (.const (.int .i64 0))⟩] [0, 1, 15])
  (.cond (.tmp 15)
    (.seq (.ops [⟨(some 16), none, .mov (.tmp 0)⟩,
        ⟨(some 17), none, .mov (.tmp 1)⟩,
        ⟨(some 18), none, .callF 25 [(.tmp 16), (.tmp 17)]⟩,
        ⟨(some 4), none, .mov (.const (.slice none 0 0))⟩,
        ⟨(some 5), none, .mov (.tmp 18)⟩] [4, 5])
    (.ret))
    (.skip)))
  (.seq (.seq (.ops [⟨(some 19), none, .mov (.tmp 0)⟩,
      ⟨(some 20), none, .len false (.tmp 19)⟩,
      ⟨(some 21), none, .mov (.tmp 1)⟩,
      ⟨(some 22), none, .len false (.tmp 21)⟩,
      ⟨(some 23), none, .bin .neq (.tmp 20) (.tmp 22)⟩] [0, 1, 23])
  (.cond (.tmp 23)
    (.seq (.ops [⟨(some 4), none, .mov (.const (.slice none 0 0))⟩,
        ⟨(some 5), none, .mov (.const (.int .i64 2))⟩] [4, 5])
    (.ret))
    (.skip)))
  (.seq (.ops [⟨(some 6), none, .mov (.const (.int .i64 (-1)))⟩] [0, 1, 6])
  (.seq (.seq (.ops [⟨(some 7), none, .mov (.const (.int .i64 0))⟩] [0, 1, 6, 7])
  (.block 0
    (.loop [0, 1, 6, 7]
      c9l3)))
  (.seq (.ops [⟨(some 8), none, .mov (.const (.slice none 0 0))⟩] [0, 1, 6, 8])
  (.seq (.seq (.ops [⟨(some 9), none, .mov (.const (.int .i64 0))⟩] [0, 1, 6, 8, 9])
  (.block 2
    (.loop [0, 1, 6, 8, 9]
      c9l2)))
  (.seq (.seq (.ops [⟨(some 10), none, .mov (.const (.int .i64 0))⟩] [0, 1, 8, 10])
  (.block 4
    (.loop [0, 1, 8, 10]
      c9l1)))
  (.seq (.ops [⟨(some 84), none, .mov (.tmp 8)⟩,
      ⟨(some 4), none, .mov (.tmp 84)⟩,
      ⟨(some 5), none, .mov (.const (.int .i64 0))⟩] [4, 5])
  (.ret))))))))),
  85, [(4, none), (5, none)], true⟩
/- raddle/raddleref02.Same -/
def c10l0 : AC :=
  .seq (.seq (.ops [⟨(some 11), none, .mov (.tmp 5)⟩,
          ⟨(some 12), none, .mov (.tmp 0)⟩,
          ⟨(some 13), none, .len false (.tmp 12)⟩,
          ⟨(some 14), none, .bin .lss (.tmp 11) (.tmp 13)⟩] [0, 1, 5, 14])
      (.cond (.tmp 14)
        (.skip)
        (.exit 0)))
      (.seq (.block 1
        (.seq (.draw [⟨(some 17), none, .mov (.tmp 0)⟩,
            ⟨(some 18), none, .mov (.tmp 5)⟩,
            ⟨(some 19), none, .idxS 1 (.tmp 17) (.tmp 18)⟩,
            ⟨(some 20), none, .load none (.tmp 19)⟩,
            ⟨(some 21), none, .mov (.tmp 1)⟩,
            ⟨(some 22), none, .mov (.tmp 5)⟩,
            ⟨(some 23), none, .idxS 1 (.tmp 21) (.tmp 22)⟩,
            ⟨(some 24), none, .load none (.tmp 23)⟩] [⟨(some 25), none, .bin .neq (.tmp 20) (.tmp 24)⟩] [[], [], [], [], [], [], [], []] [0, 1, 5, 25])
        (.cond (.tmp 25)
          (.seq (.ops [⟨(some 4), none, .mov (.const (.bool false))⟩] [4])
          (.ret))
          (.skip))))
      (.ops [⟨(some 15), none, .mov (.tmp 5)⟩,
          ⟨(some 16), none, .bin .add (.tmp 15) (.const (.int .i64 1))⟩,
          ⟨(some 5), none, .mov (.tmp 16)⟩] [0, 1, 5]))
def c10 : AFun := ⟨
  .seq (.ops [⟨(some 4), none, .mov (.const (.bool false))⟩] [0, 1])
  (.seq (.seq (.ops [⟨(some 6), none, .mov (.tmp 0)⟩,
      ⟨(some 7), none, .len false (.tmp 6)⟩,
      ⟨(some 8), none, .mov (.tmp 1)⟩,
      ⟨(some 9), none, .len false (.tmp 8)⟩,
      ⟨(some 10), none, .bin .neq (.tmp 7) (.tmp 9)⟩] [0, 1, 10])
  (.cond (.tmp 10)
    (.seq (.ops [⟨(some 4), none, .mov (.const (.bool false))⟩] [4])
    (.ret))
    (.skip)))
  (.seq (.seq (.ops [⟨(some 5), none, .mov (.const (.int .i64 0))⟩] [0, 1, 5])
  (.block 0
    (.loop [0, 1, 5]
      c10l0)))
  (.seq (.ops [⟨(some 4), none, .mov (.const (.bool true))⟩] [4])
  (.ret)))),
  26, [(4, none)], true⟩
/- raddle/thread.Straight -/
def c11l0 : AC :=
  .seq (.ops [⟨(some 16), none, .bin .lss (.tmp 15) (.tmp 14)⟩] [0, 6, 14, 15, 16])
      (.seq (.cond (.tmp 16)
        (.skip)
        (.exit 0))
      (.seq (.block 1
        (.seq (.ops [⟨(some 17), none, .mov (.tmp 15)⟩,
            ⟨(some 7), none, .mov (.tmp 17)⟩] [0, 6, 7, 14, 15])
        (.ops [⟨(some 18), none, .mov (.tmp 6)⟩,
            ⟨(some 19), none, .mov (.tmp 7)⟩,
            ⟨(some 20), none, .mov (.tmp 7)⟩,
            ⟨(some 21), none, .mov (.tmp 0)⟩,
            ⟨(some 22), none, .bin .rem (.tmp 20) (.tmp 21)⟩,
            ⟨(some 23), none, .idxS 1 (.tmp 18) (.tmp 19)⟩,
            ⟨none, none, .store 1 (.tmp 23) (.tmp 22)⟩] [0, 6, 14, 15])))
      (.ops [⟨(some 24), none, .bin .add (.tmp 15) (.const (.int .i64 1))⟩,
          ⟨(some 15), none, .mov (.tmp 24)⟩] [0, 6, 14, 15])))
def c11 : AFun := ⟨
  .seq (.ops [⟨(some 4), none, .mov (.const (.slice none 0 0))⟩,
      ⟨(some 5), none, .mov (.const (.int .i64 0))⟩] [0, 1])
  (.seq (.seq (.ops [⟨(some 8), none, .mov (.tmp 0)⟩,
      ⟨(some 9), none, .mov (.tmp 1)⟩,
      ⟨(some 10), none, .callF 26 [(.tmp 8), (.tmp 9)]⟩,
      ⟨(some 11), none, .un .not (.tmp 10)⟩] [0, 1, 11])
  (.cond (.tmp 11)
    (.seq (.ops [⟨(some 4), none, .mov (.const (.slice none 0 0))⟩,
        ⟨(some 5), none, .mov (.const (.int .i64 2))⟩] [4, 5])
    (.ret))
    (.skip)))
  (.seq (.ops [⟨(some 12), none, .mov (.tmp 1)⟩,
      ⟨(some 13), none, .mkSlice 3 1 8 [(.int .i64 0)] (.tmp 12) (.tmp 12)⟩,
      ⟨(some 6), none, .mov (.tmp 13)⟩] [0, 1, 6])
  (.seq (.seq (.ops [⟨(some 14), none, .mov (.tmp 1)⟩,
      ⟨(some 15), none, .mov (.const (.int .i64 0))⟩] [0, 6, 14, 15])
  (.block 0
    (.loop [0, 6, 14, 15]
      c11l0)))
  (.seq (.ops [⟨(some 25), none, .mov (.tmp 6)⟩,
      ⟨(some 4), none, .mov (.tmp 25)⟩,
      ⟨(some 5), none, .mov (.const (.int .i64 0))⟩] [4, 5])
  (.ret))))),
  26, [(4, none), (5, none)], true⟩
/- raddle/raddleref02.Straight -/
def c12l0 : AC :=
  .seq (.seq (.ops [⟨(some 12), none, .mov (.tmp 7)⟩,
          ⟨(some 13), none, .mov (.tmp 1)⟩,
          ⟨(some 14), none, .bin .lss (.tmp 12) (.tmp 13)⟩] [0, 1, 6, 7, 14])
      (.cond (.tmp 14)
        (.skip)
        (.exit 0)))
      (.seq (.block 1
        (.ops [⟨(some 17), none, .mov (.tmp 6)⟩,
            ⟨(some 18), none, .mov (.tmp 7)⟩,
            ⟨(some 19), none, .mov (.tmp 0)⟩,
            ⟨(some 20), none, .bin .rem (.tmp 18) (.tmp 19)⟩,
            ⟨(some 21), none, .mkRow 3 1 1 [(.int .i64 0)] [(0, 1, (.tmp 20))]⟩,
            ⟨(some 22), none, .app 3 1 8 (.tmp 17) (.tmp 21)⟩,
            ⟨(some 6), none, .mov (.tmp 22)⟩] [0, 1, 6, 7]))
      (.ops [⟨(some 15), none, .mov (.tmp 7)⟩,
          ⟨(some 16), none, .bin .add (.tmp 15) (.const (.int .i64 1))⟩,
          ⟨(some 7), none, .mov (.tmp 16)⟩] [0, 1, 6, 7]))
def c12 : AFun := ⟨
  .seq (.ops [⟨(some 4), none, .mov (.const (.slice none 0 0))⟩,
      ⟨(some 5), none, .mov (.const (.int .i64 0))⟩] [0, 1])
  (.seq (.seq (.ops [⟨(some 8), none, .mov (.tmp 0)⟩,
      ⟨(some 9), none, .mov (.tmp 1)⟩,
      ⟨(some 10), none, .callF 27 [(.tmp 8), (.tmp 9)]⟩,
      ⟨(some 11), none, .un .not (.tmp 10)⟩] [0, 1, 11])
  (.cond (.tmp 11)
    (.seq (.ops [⟨(some 4), none, .mov (.const (.slice none 0 0))⟩,
        ⟨(some 5), none, .mov (.const (.int .i64 2))⟩] [4, 5])
    (.ret))
    (.skip)))
  (.seq (.ops [⟨(some 6), none, .mov (.const (.slice none 0 0))⟩] [0, 1, 6])
  (.seq (.seq (.ops [⟨(some 7), none, .mov (.const (.int .i64 0))⟩] [0, 1, 6, 7])
  (.block 0
    (.loop [0, 1, 6, 7]
      c12l0)))
  (.seq (.ops [⟨(some 23), none, .mov (.tmp 6)⟩,
      ⟨(some 4), none, .mov (.tmp 23)⟩,
      ⟨(some 5), none, .mov (.const (.int .i64 0))⟩] [4, 5])
  (.ret))))),
  24, [(4, none), (5, none)], true⟩
/- raddle/thread.Pointed -/
def c13l0 : AC :=
  .seq (.ops [⟨(some 22), none, .bin .lss (.tmp 21) (.tmp 20)⟩] [6, 7, 20, 21, 22])
      (.seq (.cond (.tmp 22)
        (.skip)
        (.exit 0))
      (.seq (.block 1
        (.seq (.ops [⟨(some 23), none, .mov (.tmp 21)⟩,
            ⟨(some 8), none, .mov (.tmp 23)⟩] [6, 7, 8, 20, 21])
        (.seq (.ops [⟨(some 24), none, .mov (.tmp 8)⟩,
            ⟨(some 25), none, .mov (.tmp 7)⟩,
            ⟨(some 26), none, .bin .rem (.tmp 24) (.tmp 25)⟩,
            ⟨(some 9), none, .mov (.tmp 26)⟩] [6, 7, 8, 9, 20, 21])
        (.ops [⟨(some 27), none, .mov (.tmp 6)⟩,
            ⟨(some 28), none, .mov (.tmp 8)⟩,
            ⟨(some 29), none, .mov (.tmp 9)⟩,
            ⟨(some 30), none, .mov (.tmp 7)⟩,
            ⟨(some 31), none, .mov (.tmp 9)⟩,
            ⟨(some 32), none, .bin .sub (.tmp 30) (.tmp 31)⟩,
            ⟨(some 33), none, .mm false (.tmp 29) (.tmp 32)⟩,
            ⟨(some 34), none, .idxS 1 (.tmp 27) (.tmp 28)⟩,
            ⟨none, none, .store 1 (.tmp 34) (.tmp 33)⟩] [6, 7, 20, 21]))))
      (.ops [⟨(some 35), none, .bin .add (.tmp 21) (.const (.int .i64 1))⟩,
          ⟨(some 21), none, .mov (.tmp 35)⟩] [6, 7, 20, 21])))
def c13 : AFun := ⟨
  .seq (.ops [⟨(some 4), none, .mov (.const (.slice none 0 0))⟩,
      ⟨(some 5), none, .mov (.const (.int .i64 0))⟩] [0, 1])
  (.seq (.seq (.ops [⟨(some 10), none, .mov (.tmp 0)⟩,
      ⟨(some 11), none, .mov (.tmp 1)⟩,
      ⟨(some 12), none, .callF 26 [(.tmp 10), (.tmp 11)]⟩,
      ⟨(some 13), none, .un .not (.tmp 12)⟩] [0, 1, 13])
  (.cond (.tmp 13)
    (.seq (.ops [⟨(some 4), none, .mov (.const (.slice none 0 0))⟩,
        ⟨(some 5), none, .mov (.const (.int .i64 2))⟩] [4, 5])
    (.ret))
    (.skip)))
  (.seq (.ops [⟨(some 14), none, .mov (.tmp 1)⟩,
      ⟨(some 15), none, .mkSlice 3 1 8 [(.int .i64 0)] (.tmp 14) (.tmp 14)⟩,
      ⟨(some 6), none, .mov (.tmp 15)⟩] [0, 1, 6])
  (.seq (.ops [⟨(some 16), none, .mov (.tmp 0)⟩,
      ⟨(some 17), none, .bin .mul (.const (.int .i64 2)) (.tmp 16)⟩,
      ⟨(some 18), none, .bin .sub (.tmp 17) (.const (.int .i64 2))⟩,
      ⟨(some 19), none, .mm true (.const (.int .i64 1)) (.tmp 18)⟩,
      ⟨(some 7), none, .mov (.tmp 19)⟩] [1, 6, 7])
  (.seq (.seq (.ops [⟨(some 20), none, .mov (.tmp 1)⟩,
      ⟨(some 21), none, .mov (.const (.int .i64 0))⟩] [6, 7, 20, 21])
  (.block 0
    (.loop [6, 7, 20, 21]
      c13l0)))
  (.seq (.ops [⟨(some 36), none, .mov (.tmp 6)⟩,
      ⟨(some 4), none, .mov (.tmp 36)⟩,
      ⟨(some 5), none, .mov (.const (.int .i64 0))⟩] [4, 5])
  (.ret)))))),
  37, [(4, none), (5, none)], true⟩
/- raddle/raddleref02.Pointed -/
def c14l0 : AC :=
  .seq (.seq (.ops [⟨(some 14), none, .mov (.tmp 9)⟩,
          ⟨(some 15), none, .mov (.tmp 1)⟩,
          ⟨(some 16), none, .bin .lss (.tmp 14) (.tmp 15)⟩] [0, 1, 6, 7, 8, 9, 16])
      (.cond (.tmp 16)
        (.skip)
        (.exit 0)))
      (.seq (.block 1
        (.seq (.ops [⟨(some 19), none, .mov (.tmp 6)⟩,
            ⟨(some 20), none, .mov (.tmp 7)⟩,
            ⟨(some 21), none, .mkRow 3 1 1 [(.int .i64 0)] [(0, 1, (.tmp 20))]⟩,
            ⟨(some 22), none, .app 3 1 8 (.tmp 19) (.tmp 21)⟩,
            ⟨(some 6), none, .mov (.tmp 22)⟩] [0, 1, 6, 7, 8, 9])
        (.seq (.seq (.ops [⟨(some 23), none, .mov (.tmp 7)⟩,
            ⟨(some 24), none, .mov (.tmp 8)⟩,
            ⟨(some 25), none, .bin .add (.tmp 23) (.tmp 24)⟩,
            ⟨(some 26), none, .bin .lss (.tmp 25) (.const (.int .i64 0))⟩,
            ⟨(some 27), none, .mov (.tmp 26)⟩,
            ⟨(some 28), (some (27, false)), .mov (.tmp 7)⟩,
            ⟨(some 29), (some (27, false)), .mov (.tmp 8)⟩,
            ⟨(some 30), (some (27, false)), .bin .add (.tmp 28) (.tmp 29)⟩,
            ⟨(some 31), (some (27, false)), .mov (.tmp 0)⟩,
            ⟨(some 32), (some (27, false)), .bin .geq (.tmp 30) (.tmp 31)⟩,
            ⟨(some 33), none, .pick (.tmp 27) (.const (.bool true)) (.tmp 32)⟩] [0, 1, 6, 7, 8, 9, 33])
        (.cond (.tmp 33)
          (.ops [⟨(some 34), none, .mov (.tmp 8)⟩,
              ⟨(some 35), none, .un .neg (.tmp 34)⟩,
              ⟨(some 8), none, .mov (.tmp 35)⟩] [0, 1, 6, 7, 8, 9])
          (.skip)))
        (.seq (.ops [⟨(some 36), none, .mov (.tmp 0)⟩,
            ⟨(some 37), none, .bin .gtr (.tmp 36) (.const (.int .i64 1))⟩] [0, 1, 6, 7, 8, 9, 37])
        (.cond (.tmp 37)
          (.ops [⟨(some 38), none, .mov (.tmp 7)⟩,
              ⟨(some 39), none, .mov (.tmp 8)⟩,
              ⟨(some 40), none, .bin .add (.tmp 38) (.tmp 39)⟩,
              ⟨(some 7), none, .mov (.tmp 40)⟩] [0, 1, 6, 7, 8, 9])
          (.skip))))))
      (.ops [⟨(some 17), none, .mov (.tmp 9)⟩,
          ⟨(some 18), none, .bin .add (.tmp 17) (.const (.int .i64 1))⟩,
          ⟨(some 9), none, .mov (.tmp 18)⟩] [0, 1, 6, 7, 8, 9]))
def c14 : AFun := ⟨
  .seq (.ops [⟨(some 4), none, .mov (.const (.slice none 0 0))⟩,
      ⟨(some 5), none, .mov (.const (.int .i64 0))⟩] [0, 1])
  (.seq (.seq (.ops [⟨(some 10), none, .mov (.tmp 0)⟩,
      ⟨(some 11), none, .mov (.tmp 1)⟩,
      ⟨(some 12), none, .callF 27 [(.tmp 10), (.tmp 11)]⟩,
      ⟨(some 13), none, .un .not (.tmp 12)⟩] [0, 1, 13])
  (.cond (.tmp 13)
    (.seq (.ops [⟨(some 4), none, .mov (.const (.slice none 0 0))⟩,
        ⟨(some 5), none, .mov (.const (.int .i64 2))⟩] [4, 5])
    (.ret))
    (.skip)))
  (.seq (.ops [⟨(some 6), none, .mov (.const (.slice none 0 0))⟩] [0, 1, 6])
  (.seq (.ops [⟨(some 7), none, .mov (.const (.int .i64 0))⟩,
      ⟨(some 8), none, .mov (.const (.int .i64 1))⟩] [0, 1, 6, 7, 8])
  (.seq (.seq (.ops [⟨(some 9), none, .mov (.const (.int .i64 0))⟩] [0, 1, 6, 7, 8, 9])
  (.block 0
    (.loop [0, 1, 6, 7, 8, 9]
      c14l0)))
  (.seq (.ops [⟨(some 41), none, .mov (.tmp 6)⟩,
      ⟨(some 4), none, .mov (.tmp 41)⟩,
      ⟨(some 5), none, .mov (.const (.int .i64 0))⟩] [4, 5])
  (.ret)))))),
  42, [(4, none), (5, none)], true⟩
/- raddle/thread.Join -/
def c15 : AFun := ⟨
  .seq (.ops [⟨(some 4), none, .mov (.const (.slice none 0 0))⟩,
      ⟨(some 5), none, .mov (.const (.int .i64 0))⟩] [0, 1])
  (.seq (.seq (.ops [⟨(some 7), none, .mov (.tmp 0)⟩,
      ⟨(some 8), none, .mov (.tmp 1)⟩,
      ⟨(some 9), none, .mkRow 22 1 2 [(.slice none 0 0)] [(0, 1, (.tmp 7)), (1, 1, (.tmp 8))]⟩,
      ⟨(some 10), none, .callF 21 [(.tmp 9)]⟩,
      ⟨(some 6), none, .mov (.tmp 10)⟩] [0, 1, 6])
  (.seq (.ops [⟨(some 11), none, .mov (.tmp 6)⟩,
      ⟨(some 12), none, .bin .neq (.tmp 11) (.const (.int .i64 0))⟩] [0, 1, 6, 12])
  (.cond (.tmp 12)
    (.seq (.ops [⟨(some 13), none, .mov (.tmp 6)⟩,
        ⟨(some 4), none, .mov (.const (.slice none 0 0))⟩,
        ⟨(some 5), none, .mov (.tmp 13)⟩] [4, 5])
    (.ret))
    (.skip))))
  (.seq (.seq (.ops [⟨(some 14), none, .mov (.tmp 0)⟩,
      ⟨(some 15), none, .len false (.tmp 14)⟩,
      ⟨(some 16), none, .mov (.tmp 1)⟩,
      ⟨(some 17), none, .len false (.tmp 16)⟩,
      ⟨(some 18), none, .bin .add (.tmp 15) (.tmp 17)⟩,
      ⟨(some 19), none, .bin .gtr (.tmp 18) (.const (.int .i64 400))⟩] [0, 1, 19])
  (.cond (.tmp 19)
    (.seq (.ops [⟨(some 4), none, .mov (.const (.slice none 0 0))⟩,
        ⟨(some 5), none, .mov (.const (.int .i64 4))⟩] [4, 5])
    (.ret))
    (.skip)))
  (.seq (.ops [⟨(some 20), none, .mov (.tmp 0)⟩,
      ⟨(some 21), none, .mov (.tmp 1)⟩,
      ⟨(some 22), none, .mkRow 22 1 2 [(.slice none 0 0)] [(0, 1, (.tmp 20)), (1, 1, (.tmp 21))]⟩,
      ⟨(some 23), none, .callF 28 [(.tmp 22)]⟩,
      ⟨(some 4), none, .mov (.tmp 23)⟩,
      ⟨(some 5), none, .mov (.const (.int .i64 0))⟩] [4, 5])
  (.ret)))),
  24, [(4, none), (5, none)], true⟩
/- raddle/raddleref02.Join -/
def c16 : AFun := ⟨
  .seq (.ops [⟨(some 4), none, .mov (.const (.slice none 0 0))⟩,
      ⟨(some 5), none, .mov (.const (.int .i64 0))⟩] [0, 1])
  (.seq (.seq (.ops [⟨(some 6), none, .mov (.tmp 0)⟩,
      ⟨(some 7), none, .mov (.tmp 1)⟩,
      ⟨(some 8), none, .callF 25 [(.tmp 6), (.tmp 7)]⟩,
      ⟨(some 9), none, .bin .neq (.tmp 8) (.const (.int .i64 0))⟩] [0, 1, 9])
  (.cond (.tmp 9)
    (.seq (.ops [⟨(some 10), none, .mov (.tmp 0)⟩,
        ⟨(some 11), none, .mov (.tmp 1)⟩,
        ⟨(some 12), none, .callF 25 [(.tmp 10), (.tmp 11)]⟩,
        ⟨(some 4), none, .mov (.const (.slice none 0 0))⟩,
        ⟨(some 5), none, .mov (.tmp 12)⟩] [4, 5])
    (.ret))
    (.skip)))
  (.seq (.seq (.ops [⟨(some 13), none, .mov (.tmp 0)⟩,
      ⟨(some 14), none, .len false (.tmp 13)⟩,
      ⟨(some 15), none, .mov (.tmp 1)⟩,
      ⟨(some 16), none, .len false (.tmp 15)⟩,
      ⟨(some 17), none, .bin .add (.tmp 14) (.tmp 16)⟩,
      ⟨(some 18), none, .bin .gtr (.tmp 17) (.const (.int .i64 400))⟩] [0, 1, 18])
  (.cond (.tmp 18)
    (.seq (.ops [⟨(some 4), none, .mov (.const (.slice none 0 0))⟩,
        ⟨(some 5), none, .mov (.const (.int .i64 4))⟩] [4, 5])
    (.ret))
    (.skip)))
  (.seq (.ops [⟨(some 19), none, .mkRow 3 1 0 [(.int .i64 0)] []⟩,
      ⟨(some 20), none, .mov (.tmp 0)⟩,
      ⟨(some 21), none, .app 3 1 8 (.tmp 19) (.tmp 20)⟩,
      ⟨(some 22), none, .mov (.tmp 1)⟩,
      ⟨(some 23), none, .app 3 1 8 (.tmp 21) (.tmp 22)⟩,
      ⟨(some 4), none, .mov (.tmp 23)⟩,
      ⟨(some 5), none, .mov (.const (.int .i64 0))⟩] [4, 5])
  (.ret)))),
  24, [(4, none), (5, none)], true⟩
/- raddle/thread.Tile -/
def c17 : AFun := ⟨
  .seq (.ops [⟨(some 4), none, .mov (.const (.slice none 0 0))⟩,
      ⟨(some 5), none, .mov (.const (.int .i64 0))⟩] [0, 1])
  (.seq (.seq (.ops [⟨(some 7), none, .mov (.tmp 0)⟩,
      ⟨(some 8), none, .mkRow 22 1 1 [(.slice none 0 0)] [(0, 1, (.tmp 7))]⟩,
      ⟨(some 9), none, .callF 21 [(.tmp 8)]⟩,
      ⟨(some 6), none, .mov (.tmp 9)⟩] [0, 1, 6])
  (.seq (.ops [⟨(some 10), none, .mov (.tmp 6)⟩,
      ⟨(some 11), none, .bin .neq (.tmp 10) (.const (.int .i64 0))⟩] [0, 1, 6, 11])
  (.cond (.tmp 11)
    (.seq (.ops [⟨(some 12), none, .mov (.tmp 6)⟩,
        ⟨(some 4), none, .mov (.const (.slice none 0 0))⟩,
        ⟨(some 5), none, .mov (.tmp 12)⟩] [4, 5])
    (.ret))
    (.skip))))
  (.seq (.block 0
    (.seq (.ops [⟨(some 14), none, .mov (.tmp 1)⟩,
        ⟨(some 15), none, .bin .lss (.tmp 14) (.const (.int .i64 0))⟩,
        ⟨(some 13), none, .mov (.tmp 15)⟩] [0, 1, 13])
    (.cond (.tmp 13)
      (.seq (.ops [⟨(some 4), none, .mov (.const (.slice none 0 0))⟩,
          ⟨(some 5), none, .mov (.const (.int .i64 2))⟩] [4, 5])
      (.ret))
      (.seq (.ops [⟨(some 17), none, .mov (.tmp 0)⟩,
          ⟨(some 18), none, .len false (.tmp 17)⟩,
          ⟨(some 19), none, .bin .eql (.tmp 18) (.const (.int .i64 0))⟩,
          ⟨(some 16), none, .mov (.tmp 19)⟩] [0, 1, 16])
      (.cond (.tmp 16)
        (.seq (.ops [⟨(some 4), none, .mov (.const (.slice none 0 0))⟩,
            ⟨(some 5), none, .mov (.const (.int .i64 0))⟩] [4, 5])
        (.ret))
        (.seq (.ops [⟨(some 21), none, .mov (.tmp 1)⟩,
            ⟨(some 22), none, .mov (.tmp 0)⟩,
            ⟨(some 23), none, .len false (.tmp 22)⟩,
            ⟨(some 24), none, .bin .quo (.const (.int .i64 400)) (.tmp 23)⟩,
            ⟨(some 25), none, .bin .gtr (.tmp 21) (.tmp 24)⟩,
            ⟨(some 20), none, .mov (.tmp 25)⟩] [0, 1, 20])
        (.cond (.tmp 20)
          (.seq (.ops [⟨(some 4), none, .mov (.const (.slice none 0 0))⟩,
              ⟨(some 5), none, .mov (.const (.int .i64 4))⟩] [4, 5])
          (.ret))
          (.skip))))))))
  (.seq (.ops [⟨(some 26), none, .mov (.tmp 0)⟩,
      ⟨(some 27), none, .mov (.tmp 1)⟩,
      ⟨(some 28), none, .callF 29 [(.tmp 26), (.tmp 27)]⟩,
      ⟨(some 4), none, .mov (.tmp 28)⟩,
      ⟨(some 5), none, .mov (.const (.int .i64 0))⟩] [4, 5])
  (.ret)))),
  29, [(4, none), (5, none)], true⟩
/- raddle/raddleref02.Tile -/
def c18l0 : AC :=
  .seq (.seq (.ops [⟨(some 25), none, .mov (.tmp 7)⟩,
          ⟨(some 26), none, .mov (.tmp 1)⟩,
          ⟨(some 27), none, .bin .lss (.tmp 25) (.tmp 26)⟩,
          ⟨(some 28), none, .mov (.tmp 27)⟩,
          ⟨(some 29), (some (28, true)), .mov (.tmp 0)⟩,
          ⟨(some 30), (some (28, true)), .len false (.tmp 29)⟩,
          ⟨(some 31), (some (28, true)), .bin .gtr (.tmp 30) (.const (.int .i64 0))⟩,
          ⟨(some 32), none, .pick (.tmp 28) (.tmp 31) (.const (.bool false))⟩] [0, 1, 6, 7, 32])
      (.cond (.tmp 32)
        (.skip)
        (.exit 0)))
      (.seq (.block 1
        (.ops [⟨(some 35), none, .mov (.tmp 6)⟩,
            ⟨(some 36), none, .mov (.tmp 0)⟩,
            ⟨(some 37), none, .app 3 1 8 (.tmp 35) (.tmp 36)⟩,
            ⟨(some 6), none, .mov (.tmp 37)⟩] [0, 1, 6, 7]))
      (.ops [⟨(some 33), none, .mov (.tmp 7)⟩,
          ⟨(some 34), none, .bin .add (.tmp 33) (.const (.int .i64 1))⟩,
          ⟨(some 7), none, .mov (.tmp 34)⟩] [0, 1, 6, 7]))
def c18 : AFun := ⟨
  .seq (.ops [⟨(some 4), none, .mov (.const (.slice none 0 0))⟩,
      ⟨(some 5), none, .mov (.const (.int .i64 0))⟩] [0, 1])
  (.seq (.seq (.ops [⟨(some 8), none, .mov (.tmp 0)⟩,
      ⟨(some 9), none, .callF 22 [(.tmp 8)]⟩,
      ⟨(some 10), none, .bin .neq (.tmp 9) (.const (.int .i64 0))⟩] [0, 1, 10])
  (.cond (.tmp 10)
    (.seq (.ops [⟨(some 11), none, .mov (.tmp 0)⟩,
        ⟨(some 12), none, .callF 22 [(.tmp 11)]⟩,
        ⟨(some 4), none, .mov (.const (.slice none 0 0))⟩,
        ⟨(some 5), none, .mov (.tmp 12)⟩] [4, 5])
    (.ret))
    (.skip)))
  (.seq (.seq (.ops [⟨(some 13), none, .mov (.tmp 1)⟩,
      ⟨(some 14), none, .bin .lss (.tmp 13) (.const (.int .i64 0))⟩] [0, 1, 14])
  (.cond (.tmp 14)
    (.seq (.ops [⟨(some 4), none, .mov (.const (.slice none 0 0))⟩,
        ⟨(some 5), none, .mov (.const (.int .i64 2))⟩] [4, 5])
    (.ret))
    (.skip)))
  (.seq (.seq (.ops [⟨(some 15), none, .mov (.tmp 0)⟩,
      ⟨(some 16), none, .len false (.tmp 15)⟩,
      ⟨(some 17), none, .bin .gtr (.tmp 16) (.const (.int .i64 0))⟩,
      ⟨(some 18), none, .mov (.tmp 17)⟩,
      ⟨(some 19), (some (18, true)), .mov (.tmp 1)⟩,
      ⟨(some 20), (some (18, true)), .mov (.tmp 0)⟩,
      ⟨(some 21), (some (18, true)), .len false (.tmp 20)⟩,
      ⟨(some 22), (some (18, true)), .bin .quo (.const (.int .i64 400)) (.tmp 21)⟩,
      ⟨(some 23), (some (18, true)), .bin .gtr (.tmp 19) (.tmp 22)⟩,
      ⟨(some 24), none, .pick (.tmp 18) (.tmp 23) (.const (.bool false))⟩] [0, 1, 24])
  (.cond (.tmp 24)
    (.seq (.ops [⟨(some 4), none, .mov (.const (.slice none 0 0))⟩,
        ⟨(some 5), none, .mov (.const (.int .i64 4))⟩] [4, 5])
    (.ret))
    (.skip)))
  (.seq (.ops [⟨(some 6), none, .mov (.const (.slice none 0 0))⟩] [0, 1, 6])
  (.seq (.seq (.ops [⟨(some 7), none, .mov (.const (.int .i64 0))⟩] [0, 1, 6, 7])
  (.block 0
    (.loop [0, 1, 6, 7]
      c18l0)))
  (.seq (.ops [⟨(some 38), none, .mov (.tmp 6)⟩,
      ⟨(some 4), none, .mov (.tmp 38)⟩,
      ⟨(some 5), none, .mov (.const (.int .i64 0))⟩] [4, 5])
  (.ret))))))),
  39, [(4, none), (5, none)], true⟩
/- raddle/thread.Reverse -/
def c19 : AFun := ⟨
  .seq (.ops [⟨(some 2), none, .mov (.const (.slice none 0 0))⟩,
      ⟨(some 3), none, .mov (.const (.int .i64 0))⟩] [0])
  (.seq (.seq (.ops [⟨(some 6), none, .mov (.tmp 0)⟩,
      ⟨(some 7), none, .mkRow 22 1 1 [(.slice none 0 0)] [(0, 1, (.tmp 6))]⟩,
      ⟨(some 8), none, .callF 21 [(.tmp 7)]⟩,
      ⟨(some 4), none, .mov (.tmp 8)⟩] [0, 4])
  (.seq (.ops [⟨(some 9), none, .mov (.tmp 4)⟩,
      ⟨(some 10), none, .bin .neq (.tmp 9) (.const (.int .i64 0))⟩] [0, 4, 10])
  (.cond (.tmp 10)
    (.seq (.ops [⟨(some 11), none, .mov (.tmp 4)⟩,
        ⟨(some 2), none, .mov (.const (.slice none 0 0))⟩,
        ⟨(some 3), none, .mov (.tmp 11)⟩] [2, 3])
    (.ret))
    (.skip))))
  (.seq (.ops [⟨(some 12), none, .mov (.tmp 0)⟩,
      ⟨(some 13), none, .callF 30 [(.tmp 12)]⟩,
      ⟨(some 5), none, .mov (.tmp 13)⟩] [5])
  (.seq (.ops [⟨(some 14), none, .mov (.tmp 5)⟩,
      ⟨(some 15), none, .callF 31 [(.tmp 14)]⟩] [5])
  (.seq (.ops [⟨(some 16), none, .mov (.tmp 5)⟩,
      ⟨(some 2), none, .mov (.tmp 16)⟩,
      ⟨(some 3), none, .mov (.const (.int .i64 0))⟩] [2, 3])
  (.ret))))),
  17, [(2, none), (3, none)], true⟩
/- raddle/raddleref02.Reverse -/
def c20l0 : AC :=
  .seq (.seq (.ops [⟨(some 14), none, .mov (.tmp 5)⟩,
          ⟨(some 15), none, .bin .geq (.tmp 14) (.const (.int .i64 0))⟩] [0, 4, 5, 15])
      (.cond (.tmp 15)
        (.skip)
        (.exit 0)))
      (.seq (.block 1
        (.ops [⟨(some 18), none, .mov (.tmp 4)⟩,
            ⟨(some 19), none, .mov (.tmp 0)⟩,
            ⟨(some 20), none, .mov (.tmp 5)⟩,
            ⟨(some 21), none, .idxS 1 (.tmp 19) (.tmp 20)⟩,
            ⟨(some 22), none, .load none (.tmp 21)⟩,
            ⟨(some 23), none, .mkRow 3 1 1 [(.int .i64 0)] [(0, 1, (.tmp 22))]⟩,
            ⟨(some 24), none, .app 3 1 8 (.tmp 18) (.tmp 23)⟩,
            ⟨(some 4), none, .mov (.tmp 24)⟩] [0, 4, 5]))
      (.ops [⟨(some 16), none, .mov (.tmp 5)⟩,
          ⟨(some 17), none, .bin .sub (.tmp 16) (.const (.int .i64 1))⟩,
          ⟨(some 5), none, .mov (.tmp 17)⟩] [0, 4, 5]))
def c20 : AFun := ⟨
  .seq (.ops [⟨(some 2), none, .mov (.const (.slice none 0 0))⟩,
      ⟨(some 3), none, .mov (.const (.int .i64 0))⟩] [0])
  (.seq (.seq (.ops [⟨(some 6), none, .mov (.tmp 0)⟩,
      ⟨(some 7), none, .callF 22 [(.tmp 6)]⟩,
      ⟨(some 8), none, .bin .neq (.tmp 7) (.const (.int .i64 0))⟩] [0, 8])
  (.cond (.tmp 8)
    (.seq (.ops [⟨(some 9), none, .mov (.tmp 0)⟩,
        ⟨(some 10), none, .callF 22 [(.tmp 9)]⟩,
        ⟨(some 2), none, .mov (.const (.slice none 0 0))⟩,
        ⟨(some 3), none, .mov (.tmp 10)⟩] [2, 3])
    (.ret))
    (.skip)))
  (.seq (.ops [⟨(some 4), none, .mov (.const (.slice none 0 0))⟩] [0, 4])
  (.seq (.seq (.ops [⟨(some 11), none, .mov (.tmp 0)⟩,
      ⟨(some 12), none, .len false (.tmp 11)⟩,
      ⟨(some 13), none, .bin .sub (.tmp 12) (.const (.int .i64 1))⟩,
      ⟨(some 5), none, .mov (.tmp 13)⟩] [0, 4, 5])
  (.block 0
    (.loop [0, 4, 5]
      c20l0)))
  (.seq (.ops [⟨(some 25), none, .mov (.tmp 4)⟩,
      ⟨(some 2), none, .mov (.tmp 25)⟩,
      ⟨(some 3), none, .mov (.const (.int .i64 0))⟩] [2, 3])
  (.ret))))),
  26, [(2, none), (3, none)], true⟩
/- raddle/thread.check -/
def c21l0 : AC :=
  .seq (.ops [⟨(some 19), none, .bin .lss (.tmp 18) (.tmp 17)⟩] [7, 8, 9, 16, 17, 18, 19])
            (.seq (.cond (.tmp 19)
              (.skip)
              (.exit 2))
            (.seq (.block 3
              (.seq (.ops [⟨(some 20), none, .idxS 1 (.tmp 16) (.tmp 18)⟩,
                  ⟨(some 21), none, .load none (.tmp 20)⟩,
                  ⟨(some 6), none, .mov (.tmp 21)⟩] [6, 7, 8, 9, 16, 17, 18])
              (.seq (.ops [⟨(some 22), none, .mov (.tmp 6)⟩,
                  ⟨(some 23), none, .bin .lss (.tmp 22) (.const (.int .i64 0))⟩,
                  ⟨(some 24), none, .mov (.tmp 23)⟩,
                  ⟨(some 25), (some (24, false)), .mov (.tmp 6)⟩,
                  ⟨(some 26), (some (24, false)), .bin .geq (.tmp 25) (.const (.int .i64 400))⟩,
                  ⟨(some 27), none, .pick (.tmp 24) (.const (.bool true)) (.tmp 26)⟩] [7, 8, 9, 16, 17, 18, 27])
              (.cond (.tmp 27)
                (.seq (.ops [⟨(some 2), none, .mov (.const (.int .i64 8))⟩] [2])
                (.ret))
                (.skip)))))
            (.ops [⟨(some 28), none, .bin .add (.tmp 18) (.const (.int .i64 1))⟩,
                ⟨(some 18), none, .mov (.tmp 28)⟩] [7, 8, 9, 16, 17, 18])))
def c21l1 : AC :=
  .seq (.ops [⟨(some 10), none, .bin .lss (.tmp 9) (.tmp 8)⟩] [7, 8, 9, 10])
      (.seq (.cond (.tmp 10)
        (.skip)
        (.exit 0))
      (.seq (.block 1
        (.seq (.ops [⟨(some 11), none, .idxS 1 (.tmp 7) (.tmp 9)⟩,
            ⟨(some 12), none, .load none (.tmp 11)⟩,
            ⟨(some 4), none, .mov (.tmp 12)⟩] [4, 7, 8, 9])
        (.seq (.seq (.ops [⟨(some 13), none, .mov (.tmp 4)⟩,
            ⟨(some 14), none, .len false (.tmp 13)⟩,
            ⟨(some 15), none, .bin .gtr (.tmp 14) (.const (.int .i64 400))⟩] [4, 7, 8, 9, 15])
        (.cond (.tmp 15)
          (.seq (.ops [⟨(some 2), none, .mov (.const (.int .i64 4))⟩] [2])
          (.ret))
          (.skip)))
        (.seq (.ops [⟨(some 16), none, .mov (.tmp 4)⟩,
            ⟨(some 17), none, .len false (.tmp 16)⟩,
            ⟨(some 18), none, .mov (.const (.int .i64 0))⟩] [7, 8, 9, 16, 17, 18])
        (.block 2
          (.loop [7, 8, 9, 16, 17, 18]
            c21l0))))))
      (.ops [⟨(some 29), none, .bin .add (.tmp 9) (.const (.int .i64 1))⟩,
          ⟨(some 9), none, .mov (.tmp 29)⟩] [7, 8, 9])))
def c21 : AFun := ⟨
  .seq (.ops [⟨(some 2), none, .mov (.const (.int .i64 0))⟩] [0])
  (.seq (.seq (.ops [⟨(some 7), none, .mov (.tmp 0)⟩,
      ⟨(some 8), none, .len false (.tmp 7)⟩,
      ⟨(some 9), none, .mov (.const (.int .i64 0))⟩] [7, 8, 9])
  (.block 0
    (.loop [7, 8, 9]
      c21l1)))
  (.seq (.ops [⟨(some 2), none, .mov (.const (.int .i64 0))⟩] [2])
  (.ret))),
  30, [(2, none)], true⟩
/- raddle/raddleref02.Check -/
def c22l0 : AC :=
  .seq (.seq (.ops [⟨(some 7), none, .mov (.tmp 3)⟩,
          ⟨(some 8), none, .mov (.tmp 0)⟩,
          ⟨(some 9), none, .len false (.tmp 8)⟩,
          ⟨(some 10), none, .bin .lss (.tmp 7) (.tmp 9)⟩] [0, 3, 10])
      (.cond (.tmp 10)
        (.skip)
        (.exit 0)))
      (.seq (.block 1
        (.seq (.ops [⟨(some 13), none, .mov (.tmp 0)⟩,
            ⟨(some 14), none, .mov (.tmp 3)⟩,
            ⟨(some 15), none, .idxS 1 (.tmp 13) (.tmp 14)⟩,
            ⟨(some 16), none, .load none (.tmp 15)⟩,
            ⟨(some 17), none, .bin .lss (.tmp 16) (.const (.int .i64 0))⟩,
            ⟨(some 18), none, .mov (.tmp 17)⟩,
            ⟨(some 19), (some (18, false)), .mov (.tmp 0)⟩,
            ⟨(some 20), (some (18, false)), .mov (.tmp 3)⟩,
            ⟨(some 21), (some (18, false)), .idxS 1 (.tmp 19) (.tmp 20)⟩,
            ⟨(some 22), (some (18, false)), .load none (.tmp 21)⟩,
            ⟨(some 23), (some (18, false)), .bin .geq (.tmp 22) (.const (.int .i64 400))⟩,
            ⟨(some 24), none, .pick (.tmp 18) (.const (.bool true)) (.tmp 23)⟩] [0, 3, 24])
        (.cond (.tmp 24)
          (.seq (.ops [⟨(some 2), none, .mov (.const (.int .i64 8))⟩] [2])
          (.ret))
          (.skip))))
      (.ops [⟨(some 11), none, .mov (.tmp 3)⟩,
          ⟨(some 12), none, .bin .add (.tmp 11) (.const (.int .i64 1))⟩,
          ⟨(some 3), none, .mov (.tmp 12)⟩] [0, 3]))
def c22 : AFun := ⟨
  .seq (.ops [⟨(some 2), none, .mov (.const (.int .i64 0))⟩] [0])
  (.seq (.seq (.ops [⟨(some 4), none, .mov (.tmp 0)⟩,
      ⟨(some 5), none, .len false (.tmp 4)⟩,
      ⟨(some 6), none, .bin .gtr (.tmp 5) (.const (.int .i64 400))⟩] [0, 6])
  (.cond (.tmp 6)
    (.seq (.ops [⟨(some 2), none, .mov (.const (.int .i64 4))⟩] [2])
    (.ret))
    (.skip)))
  (.seq (.seq (.ops [⟨(some 3), none, .mov (.const (.int .i64 0))⟩] [0, 3])
  (.block 0
    (.loop [0, 3]
      c22l0)))
  (.seq (.ops [⟨(some 2), none, .mov (.const (.int .i64 0))⟩] [2])
  (.ret)))),
  25, [(2, none)], true⟩
/- raddle/raddleref02.Numbered -/
def c23l0 : AC :=
  .seq (.seq (.ops [⟨(some 8), none, .mov (.tmp 6)⟩,
          ⟨(some 9), none, .mov (.tmp 0)⟩,
          ⟨(some 10), none, .len false (.tmp 9)⟩,
          ⟨(some 11), none, .bin .lss (.tmp 8) (.tmp 10)⟩] [0, 4, 5, 6, 11])
      (.cond (.tmp 11)
        (.skip)
        (.exit 0)))
      (.seq (.block 1
        (.seq (.ops [⟨(some 14), none, .mov (.tmp 0)⟩,
            ⟨(some 15), none, .mov (.tmp 6)⟩,
            ⟨(some 16), none, .mov (.tmp 0)⟩,
            ⟨(some 17), none, .mov (.tmp 6)⟩,
            ⟨(some 18), none, .idxS 1 (.tmp 16) (.tmp 17)⟩,
            ⟨(some 19), none, .load none (.tmp 18)⟩,
            ⟨(some 20), none, .callF 32 [(.tmp 14), (.tmp 15), (.tmp 19)]⟩,
            ⟨(some 7), none, .mov (.tmp 20)⟩] [0, 4, 5, 6, 7])
        (.seq (.seq (.ops [⟨(some 21), none, .mov (.tmp 7)⟩,
            ⟨(some 22), none, .bin .geq (.tmp 21) (.const (.int .i64 0))⟩] [0, 4, 5, 6, 7, 22])
        (.cond (.tmp 22)
          (.seq (.ops [⟨(some 23), none, .mov (.tmp 4)⟩,
              ⟨(some 24), none, .mov (.tmp 4)⟩,
              ⟨(some 25), none, .mov (.tmp 7)⟩,
              ⟨(some 26), none, .idxS 1 (.tmp 24) (.tmp 25)⟩,
              ⟨(some 27), none, .load none (.tmp 26)⟩,
              ⟨(some 28), none, .mkRow 3 1 1 [(.int .i64 0)] [(0, 1, (.tmp 27))]⟩,
              ⟨(some 29), none, .app 3 1 8 (.tmp 23) (.tmp 28)⟩,
              ⟨(some 4), none, .mov (.tmp 29)⟩] [0, 4, 5, 6])
          (.exit 1))
          (.skip)))
        (.seq (.ops [⟨(some 30), none, .mov (.tmp 4)⟩,
            ⟨(some 31), none, .mov (.tmp 5)⟩,
            ⟨(some 32), none, .mkRow 3 1 1 [(.int .i64 0)] [(0, 1, (.tmp 31))]⟩,
            ⟨(some 33), none, .app 3 1 8 (.tmp 30) (.tmp 32)⟩,
            ⟨(some 4), none, .mov (.tmp 33)⟩] [0, 4, 5, 6])
        (.ops [⟨(some 34), none, .mov (.tmp 5)⟩,
            ⟨(some 35), none, .bin .add (.tmp 34) (.const (.int .i64 1))⟩,
            ⟨(some 5), none, .mov (.tmp 35)⟩] [0, 4, 5, 6])))))
      (.ops [⟨(some 12), none, .mov (.tmp 6)⟩,
          ⟨(some 13), none, .bin .add (.tmp 12) (.const (.int .i64 1))⟩,
          ⟨(some 6), none, .mov (.tmp 13)⟩] [0, 4, 5, 6]))
def c23 : AFun := ⟨
  .seq (.ops [⟨(some 2), none, .mov (.const (.slice none 0 0))⟩,
      ⟨(some 3), none, .mov (.const (.int .i64 0))⟩] [0])
  (.seq (.ops [⟨(some 4), none, .mov (.const (.slice none 0 0))⟩] [0, 4])
  (.seq (.ops [⟨(some 5), none, .mov (.const (.int .i64 0))⟩] [0, 4, 5])
  (.seq (.seq (.ops [⟨(some 6), none, .mov (.const (.int .i64 0))⟩] [0, 4, 5, 6])
  (.block 0
    (.loop [0, 4, 5, 6]
      c23l0)))
  (.seq (.ops [⟨(some 36), none, .mov (.tmp 4)⟩,
      ⟨(some 37), none, .mov (.tmp 5)⟩,
      ⟨(some 2), none, .mov (.tmp 36)⟩,
      ⟨(some 3), none, .mov (.tmp 37)⟩] [2, 3])
  (.ret))))),
  38, [(2, none), (3, none)], true⟩
/- slices.Max[[]int,int] (1 operations that the interpreter lacks) -/
def c24l0 : AC :=
  .seq (.seq (.ops [⟨(some 12), none, .mov (.tmp 4)⟩,
          ⟨(some 13), none, .mov (.tmp 0)⟩,
          ⟨(some 14), none, .len false (.tmp 13)⟩,
          ⟨(some 15), none, .bin .lss (.tmp 12) (.tmp 14)⟩] [0, 3, 4, 15])
      (.cond (.tmp 15)
        (.skip)
        (.exit 0)))
      (.seq (.block 1
        (.ops [⟨(some 18), none, .mov (.tmp 3)⟩,
            ⟨(some 19), none, .mov (.tmp 0)⟩,
            ⟨(some 20), none, .mov (.tmp 4)⟩,
            ⟨(some 21), none, .idxS 1 (.tmp 19) (.tmp 20)⟩,
            ⟨(some 22), none, .load none (.tmp 21)⟩,
            ⟨(some 23), none, .mm true (.tmp 18) (.tmp 22)⟩,
            ⟨(some 3), none, .mov (.tmp 23)⟩] [0, 3, 4]))
      (.ops [⟨(some 16), none, .mov (.tmp 4)⟩,
          ⟨(some 17), none, .bin .add (.tmp 16) (.const (.int .i64 1))⟩,
          ⟨(some 4), none, .mov (.tmp 17)⟩] [0, 3, 4]))
def c24 : AFun := ⟨
  .seq (.ops [⟨(some 2), none, .mov (.const (.int .i64 0))⟩] [0])
  (.seq (.seq (.ops [⟨(some 5), none, .mov (.tmp 0)⟩,
      ⟨(some 6), none, .len false (.tmp 5)⟩,
      ⟨(some 7), none, .bin .lss (.tmp 6) (.const (.int .i64 1))⟩] [0, 7])
  (.cond (.tmp 7)
    (.ops [⟨(some 8), none, .mkIf 9 (.const (.string ⟨#[115, 108, 105, 99, 101, 115, 46, 77, 97, 120, 58, 32, 101, 109, 112, 116, 121, 32, 108, 105, 115, 116]⟩))⟩,
        ⟨none, none, .bad⟩] [0])
    (.skip)))
  (.seq (.ops [⟨(some 9), none, .mov (.tmp 0)⟩,
      ⟨(some 10), none, .idxS 1 (.tmp 9) (.const (.int .i64 0))⟩,
      ⟨(some 11), none, .load none (.tmp 10)⟩,
      ⟨(some 3), none, .mov (.tmp 11)⟩] [0, 3])
  (.seq (.seq (.ops [⟨(some 4), none, .mov (.const (.int .i64 1))⟩] [0, 3, 4])
  (.block 0
    (.loop [0, 3, 4]
      c24l0)))
  (.seq (.ops [⟨(some 24), none, .mov (.tmp 3)⟩,
      ⟨(some 2), none, .mov (.tmp 24)⟩] [2])
  (.ret))))),
  25, [(2, none)], true⟩
/- raddle/raddleref02.Both -/
def c25 : AFun := ⟨
  .seq (.ops [⟨(some 4), none, .mov (.const (.int .i64 0))⟩] [0, 1])
  (.seq (.seq (.ops [⟨(some 5), none, .mov (.tmp 0)⟩,
      ⟨(some 6), none, .callF 22 [(.tmp 5)]⟩,
      ⟨(some 7), none, .bin .neq (.tmp 6) (.const (.int .i64 0))⟩] [0, 1, 7])
  (.cond (.tmp 7)
    (.seq (.ops [⟨(some 8), none, .mov (.tmp 0)⟩,
        ⟨(some 9), none, .callF 22 [(.tmp 8)]⟩,
        ⟨(some 4), none, .mov (.tmp 9)⟩] [4])
    (.ret))
    (.skip)))
  (.seq (.ops [⟨(some 10), none, .mov (.tmp 1)⟩,
      ⟨(some 11), none, .callF 22 [(.tmp 10)]⟩,
      ⟨(some 4), none, .mov (.tmp 11)⟩] [4])
  (.ret))),
  12, [(4, none)], true⟩
/- raddle/thread.ranged -/
def c26 : AFun := ⟨
  .seq (.ops [⟨(some 4), none, .mov (.const (.bool false))⟩] [0, 1])
  (.seq (.ops [⟨(some 5), none, .mov (.tmp 0)⟩,
      ⟨(some 6), none, .bin .geq (.tmp 5) (.const (.int .i64 1))⟩,
      ⟨(some 7), none, .mov (.tmp 6)⟩,
      ⟨(some 8), (some (7, true)), .mov (.tmp 1)⟩,
      ⟨(some 9), (some (7, true)), .bin .geq (.tmp 8) (.const (.int .i64 0))⟩,
      ⟨(some 10), none, .pick (.tmp 7) (.tmp 9) (.const (.bool false))⟩,
      ⟨(some 11), none, .mov (.tmp 10)⟩,
      ⟨(some 12), (some (11, true)), .mov (.tmp 0)⟩,
      ⟨(some 13), (some (11, true)), .mov (.tmp 1)⟩,
      ⟨(some 14), (some (11, true)), .mm true (.tmp 12) (.tmp 13)⟩,
      ⟨(some 15), (some (11, true)), .bin .leq (.tmp 14) (.const (.int .i64 400))⟩,
      ⟨(some 16), none, .pick (.tmp 11) (.tmp 15) (.const (.bool false))⟩,
      ⟨(some 4), none, .mov (.tmp 16)⟩] [4])
  (.ret)),
  17, [(4, none)], true⟩
/- raddle/raddleref02.ranged -/
def c27 : AFun := ⟨
  .seq (.ops [⟨(some 4), none, .mov (.const (.bool false))⟩] [0, 1])
  (.seq (.ops [⟨(some 5), none, .mov (.tmp 0)⟩,
      ⟨(some 6), none, .bin .geq (.tmp 5) (.const (.int .i64 1))⟩,
      ⟨(some 7), none, .mov (.tmp 6)⟩,
      ⟨(some 8), (some (7, true)), .mov (.tmp 0)⟩,
      ⟨(some 9), (some (7, true)), .bin .leq (.tmp 8) (.const (.int .i64 400))⟩,
      ⟨(some 10), none, .pick (.tmp 7) (.tmp 9) (.const (.bool false))⟩,
      ⟨(some 11), none, .mov (.tmp 10)⟩,
      ⟨(some 12), (some (11, true)), .mov (.tmp 1)⟩,
      ⟨(some 13), (some (11, true)), .bin .geq (.tmp 12) (.const (.int .i64 0))⟩,
      ⟨(some 14), none, .pick (.tmp 11) (.tmp 13) (.const (.bool false))⟩,
      ⟨(some 15), none, .mov (.tmp 14)⟩,
      ⟨(some 16), (some (15, true)), .mov (.tmp 1)⟩,
      ⟨(some 17), (some (15, true)), .bin .leq (.tmp 16) (.const (.int .i64 400))⟩,
      ⟨(some 18), none, .pick (.tmp 15) (.tmp 17) (.const (.bool false))⟩,
      ⟨(some 4), none, .mov (.tmp 18)⟩] [4])
  (.ret)),
  19, [(4, none)], true⟩
/- slices.Concat[[]int,int] (1 operations that the interpreter lacks) -/
def c28l0 : AC :=
  .seq (.ops [⟨(some 28), none, .bin .lss (.tmp 27) (.tmp 26)⟩] [6, 25, 26, 27, 28])
      (.seq (.cond (.tmp 28)
        (.skip)
        (.exit 2))
      (.seq (.block 3
        (.seq (.ops [⟨(some 29), none, .idxS 1 (.tmp 25) (.tmp 27)⟩,
            ⟨(some 30), none, .load none (.tmp 29)⟩,
            ⟨(some 8), none, .mov (.tmp 30)⟩] [6, 8, 25, 26, 27])
        (.ops [⟨(some 31), none, .mov (.tmp 6)⟩,
            ⟨(some 32), none, .mov (.tmp 8)⟩,
            ⟨(some 33), none, .app 3 1 8 (.tmp 31) (.tmp 32)⟩,
            ⟨(some 6), none, .mov (.tmp 33)⟩] [6, 25, 26, 27])))
      (.ops [⟨(some 34), none, .bin .add (.tmp 27) (.const (.int .i64 1))⟩,
          ⟨(some 27), none, .mov (.tmp 34)⟩] [6, 25, 26, 27])))
def c28l1 : AC :=
  .seq (.ops [⟨(some 12), none, .bin .lss (.tmp 11) (.tmp 10)⟩] [0, 3, 9, 10, 11, 12])
      (.seq (.cond (.tmp 12)
        (.skip)
        (.exit 0))
      (.seq (.block 1
        (.seq (.ops [⟨(some 13), none, .idxS 1 (.tmp 9) (.tmp 11)⟩,
            ⟨(some 14), none, .load none (.tmp 13)⟩,
            ⟨(some 5), none, .mov (.tmp 14)⟩] [0, 3, 5, 9, 10, 11])
        (.seq (.ops [⟨(some 15), none, .mov (.tmp 3)⟩,
            ⟨(some 16), none, .mov (.tmp 5)⟩,
            ⟨(some 17), none, .len false (.tmp 16)⟩,
            ⟨(some 18), none, .bin .add (.tmp 15) (.tmp 17)⟩,
            ⟨(some 3), none, .mov (.tmp 18)⟩] [0, 3, 9, 10, 11])
        (.seq (.ops [⟨(some 19), none, .mov (.tmp 3)⟩,
            ⟨(some 20), none, .bin .lss (.tmp 19) (.const (.int .i64 0))⟩] [0, 3, 9, 10, 11, 20])
        (.cond (.tmp 20)
          (.ops [⟨(some 21), none, .mkIf 9 (.const (.string ⟨#[108, 101, 110, 32, 111, 117, 116, 32, 111, 102, 32, 114, 97, 110, 103, 101]⟩))⟩,
              ⟨none, none, .bad⟩] [0, 3, 9, 10, 11])
          (.skip))))))
      (.ops [⟨(some 22), none, .bin .add (.tmp 11) (.const (.int .i64 1))⟩,
          ⟨(some 11), none, .mov (.tmp 22)⟩] [0, 3, 9, 10, 11])))
def c28 : AFun := ⟨
  .seq (.ops [⟨(some 2), none, .mov (.const (.slice none 0 0))⟩] [0])
  (.seq (.ops [⟨(some 3), none, .mov (.const (.int .i64 0))⟩] [0, 3])
  (.seq (.seq (.ops [⟨(some 9), none, .mov (.tmp 0)⟩,
      ⟨(some 10), none, .len false (.tmp 9)⟩,
      ⟨(some 11), none, .mov (.const (.int .i64 0))⟩] [0, 3, 9, 10, 11])
  (.block 0
    (.loop [0, 3, 9, 10, 11]
      c28l1)))
  (.seq (.ops [⟨(some 23), none, .mov (.tmp 3)⟩,
      ⟨(some 24), none, .callF 33 [(.const (.slice none 0 0)), (.tmp 23)]⟩,
      ⟨(some 6), none, .mov (.tmp 24)⟩] [0, 6])
  (.seq (.seq (.ops [⟨(some 25), none, .mov (.tmp 0)⟩,
      ⟨(some 26), none, .len false (.tmp 25)⟩,
      ⟨(some 27), none, .mov (.const (.int .i64 0))⟩] [6, 25, 26, 27])
  (.block 2
    (.loop [6, 25, 26, 27]
      c28l0)))
  (.seq (.ops [⟨(some 35), none, .mov (.tmp 6)⟩,
      ⟨(some 2), none, .mov (.tmp 35)⟩] [2])
  (.ret)))))),
  36, [(2, none)], true⟩
/- slices.Repeat[[]int,int] (2 operations that the interpreter lacks) -/
def c29l0 : AC :=
  .seq (.seq (.ops [⟨(some 34), none, .mov (.tmp 8)⟩,
          ⟨(some 35), none, .mov (.tmp 7)⟩,
          ⟨(some 36), none, .len false (.tmp 35)⟩,
          ⟨(some 37), none, .bin .lss (.tmp 34) (.tmp 36)⟩] [7, 8, 37])
      (.cond (.tmp 37)
        (.skip)
        (.exit 0)))
      (.block 1
        (.draw [⟨(some 38), none, .mov (.tmp 8)⟩,
            ⟨(some 39), none, .mov (.tmp 7)⟩,
            ⟨(some 40), none, .mov (.tmp 8)⟩,
            ⟨(some 41), none, .slc 1 (.tmp 39) (some (.tmp 40)) none none⟩,
            ⟨(some 42), none, .mov (.tmp 7)⟩,
            ⟨(some 43), none, .mov (.tmp 8)⟩,
            ⟨(some 44), none, .slc 1 (.tmp 42) none (some (.tmp 43)) none⟩,
            ⟨(some 45), none, .copy 1 (.tmp 41) (.tmp 44)⟩] [⟨(some 46), none, .bin .add (.tmp 38) (.tmp 45)⟩,
            ⟨(some 8), none, .mov (.tmp 46)⟩] [[], [], [], [], [], [], [], []] [7, 8]))
def c29 : AFun := ⟨
  .seq (.ops [⟨(some 4), none, .mov (.const (.slice none 0 0))⟩] [0, 1])
  (.seq (.seq (.ops [⟨(some 9), none, .mov (.tmp 1)⟩,
      ⟨(some 10), none, .bin .lss (.tmp 9) (.const (.int .i64 0))⟩] [0, 1, 10])
  (.cond (.tmp 10)
    (.ops [⟨(some 11), none, .mkIf 9 (.const (.string ⟨#[99, 97, 110, 110, 111, 116, 32, 98, 101, 32, 110, 101, 103, 97, 116, 105, 118, 101]⟩))⟩,
        ⟨none, none, .bad⟩] [0, 1])
    (.skip)))
  (.seq (.ops [⟨(some 13), none, .mov (.tmp 0)⟩,
      ⟨(some 14), none, .len false (.tmp 13)⟩,
      ⟨(some 15), none, .convI .u64 (.tmp 14)⟩,
      ⟨(some 16), none, .mov (.tmp 1)⟩,
      ⟨(some 17), none, .convI .u64 (.tmp 16)⟩,
      ⟨(some 18), none, .callF 34 [(.tmp 15), (.tmp 17)]⟩,
      ⟨(some 12), none, .mov (.tmp 18)⟩,
      ⟨(some 19), none, .ext (.tmp 12) 0⟩,
      ⟨(some 20), none, .ext (.tmp 12) 1⟩,
      ⟨(some 5), none, .mov (.tmp 19)⟩,
      ⟨(some 6), none, .mov (.tmp 20)⟩] [0, 5, 6])
  (.seq (.seq (.ops [⟨(some 21), none, .mov (.tmp 5)⟩,
      ⟨(some 22), none, .bin .gtr (.tmp 21) (.const (.int .u64 0))⟩,
      ⟨(some 23), none, .mov (.tmp 22)⟩,
      ⟨(some 24), (some (23, false)), .mov (.tmp 6)⟩,
      ⟨(some 25), (some (23, false)), .bin .gtr (.tmp 24) (.const (.int .u64 9223372036854775807))⟩,
      ⟨(some 26), none, .pick (.tmp 23) (.const (.bool true)) (.tmp 25)⟩] [0, 6, 26])
  (.cond (.tmp 26)
    (.ops [⟨(some 27), none, .mkIf 9 (.const (.string ⟨#[116, 104, 101, 32, 114, 101, 115, 117, 108, 116, 32, 111, 102, 32, 40, 108, 101, 110, 40, 120, 41, 32, 42, 32, 99, 111, 117, 110, 116, 41, 32, 111, 118, 101, 114, 102, 108, 111, 119, 115]⟩))⟩,
        ⟨none, none, .bad⟩] [0, 6])
    (.skip)))
  (.seq (.ops [⟨(some 28), none, .mov (.tmp 6)⟩,
      ⟨(some 29), none, .convI .i64 (.tmp 28)⟩,
      ⟨(some 30), none, .mkSlice 3 1 8 [(.int .i64 0)] (.tmp 29) (.tmp 29)⟩,
      ⟨(some 7), none, .mov (.tmp 30)⟩] [0, 7])
  (.seq (.ops [⟨(some 31), none, .mov (.tmp 7)⟩,
      ⟨(some 32), none, .mov (.tmp 0)⟩,
      ⟨(some 33), none, .copy 1 (.tmp 31) (.tmp 32)⟩,
      ⟨(some 8), none, .mov (.tmp 33)⟩] [7, 8])
  (.seq (.block 0
    (.loop [7, 8]
      c29l0))
  (.seq (.ops [⟨(some 47), none, .mov (.tmp 7)⟩,
      ⟨(some 4), none, .mov (.tmp 47)⟩] [4])
  (.ret)))))))),
  48, [(4, none)], true⟩
/- slices.Clone[[]int,int] -/
def c30 : AFun := ⟨
  .seq (.ops [⟨(some 2), none, .mov (.const (.slice none 0 0))⟩] [0])
  (.seq (.seq (.ops [⟨(some 3), none, .mov (.tmp 0)⟩,
      ⟨(some 4), none, .eqNil 1 false (.tmp 3) (.const (.slice none 0 0))⟩] [0, 4])
  (.cond (.tmp 4)
    (.seq (.ops [⟨(some 2), none, .mov (.const (.slice none 0 0))⟩] [2])
    (.ret))
    (.skip)))
  (.seq (.ops [⟨(some 5), none, .mkRow 3 1 0 [(.int .i64 0)] []⟩,
      ⟨(some 6), none, .mov (.tmp 0)⟩,
      ⟨(some 7), none, .app 3 1 8 (.tmp 5) (.tmp 6)⟩,
      ⟨(some 2), none, .mov (.tmp 7)⟩] [2])
  (.ret))),
  8, [(2, none)], true⟩
/- slices.Reverse[[]int,int] -/
def c31l0 : AC :=
  .seq (.seq (.ops [⟨(some 7), none, .mov (.tmp 2)⟩,
          ⟨(some 8), none, .mov (.tmp 3)⟩,
          ⟨(some 9), none, .bin .lss (.tmp 7) (.tmp 8)⟩] [0, 2, 3, 9])
      (.cond (.tmp 9)
        (.skip)
        (.exit 0)))
      (.seq (.block 1
        (.draw [⟨(some 14), none, .mov (.tmp 0)⟩,
            ⟨(some 15), none, .mov (.tmp 2)⟩,
            ⟨(some 16), none, .mov (.tmp 0)⟩,
            ⟨(some 17), none, .mov (.tmp 3)⟩,
            ⟨(some 18), none, .mov (.tmp 0)⟩,
            ⟨(some 19), none, .mov (.tmp 3)⟩,
            ⟨(some 20), none, .idxS 1 (.tmp 18) (.tmp 19)⟩,
            ⟨(some 21), none, .load none (.tmp 20)⟩,
            ⟨(some 22), none, .mov (.tmp 0)⟩,
            ⟨(some 23), none, .mov (.tmp 2)⟩,
            ⟨(some 24), none, .idxS 1 (.tmp 22) (.tmp 23)⟩,
            ⟨(some 25), none, .load none (.tmp 24)⟩,
            ⟨(some 26), none, .idxS 1 (.tmp 14) (.tmp 15)⟩,
            ⟨none, none, .store 1 (.tmp 26) (.tmp 21)⟩] [⟨(some 27), none, .idxS 1 (.tmp 16) (.tmp 17)⟩,
            ⟨none, none, .store 1 (.tmp 27) (.tmp 25)⟩] [[], [], [], [], [], [], [], [], [], [], [], [], [], []] [0, 2, 3]))
      (.ops [⟨(some 10), none, .mov (.tmp 2)⟩,
          ⟨(some 11), none, .bin .add (.tmp 10) (.const (.int .i64 1))⟩,
          ⟨(some 12), none, .mov (.tmp 3)⟩,
          ⟨(some 13), none, .bin .sub (.tmp 12) (.const (.int .i64 1))⟩,
          ⟨(some 2), none, .mov (.tmp 11)⟩,
          ⟨(some 3), none, .mov (.tmp 13)⟩] [0, 2, 3]))
def c31 : AFun := ⟨
  .seq (.ops [⟨(some 4), none, .mov (.tmp 0)⟩,
      ⟨(some 5), none, .len false (.tmp 4)⟩,
      ⟨(some 6), none, .bin .sub (.tmp 5) (.const (.int .i64 1))⟩,
      ⟨(some 2), none, .mov (.const (.int .i64 0))⟩,
      ⟨(some 3), none, .mov (.tmp 6)⟩] [0, 2, 3])
  (.block 0
    (.loop [0, 2, 3]
      c31l0)),
  28, [], false⟩
/- raddle/raddleref02.Place -/
def c32l0 : AC :=
  .seq (.seq (.ops [⟨(some 8), none, .mov (.tmp 7)⟩,
          ⟨(some 9), none, .mov (.tmp 1)⟩,
          ⟨(some 10), none, .bin .lss (.tmp 8) (.tmp 9)⟩] [0, 1, 2, 7, 10])
      (.cond (.tmp 10)
        (.skip)
        (.exit 0)))
      (.seq (.block 1
        (.seq (.ops [⟨(some 13), none, .mov (.tmp 0)⟩,
            ⟨(some 14), none, .mov (.tmp 7)⟩,
            ⟨(some 15), none, .idxS 1 (.tmp 13) (.tmp 14)⟩,
            ⟨(some 16), none, .load none (.tmp 15)⟩,
            ⟨(some 17), none, .mov (.tmp 2)⟩,
            ⟨(some 18), none, .bin .eql (.tmp 16) (.tmp 17)⟩] [0, 1, 2, 7, 18])
        (.cond (.tmp 18)
          (.seq (.ops [⟨(some 19), none, .mov (.tmp 7)⟩,
              ⟨(some 6), none, .mov (.tmp 19)⟩] [6])
          (.ret))
          (.skip))))
      (.ops [⟨(some 11), none, .mov (.tmp 7)⟩,
          ⟨(some 12), none, .bin .add (.tmp 11) (.const (.int .i64 1))⟩,
          ⟨(some 7), none, .mov (.tmp 12)⟩] [0, 1, 2, 7]))
def c32 : AFun := ⟨
  .seq (.ops [⟨(some 6), none, .mov (.const (.int .i64 0))⟩] [0, 1, 2])
  (.seq (.seq (.ops [⟨(some 7), none, .mov (.const (.int .i64 0))⟩] [0, 1, 2, 7])
  (.block 0
    (.loop [0, 1, 2, 7]
      c32l0)))
  (.seq (.ops [⟨(some 6), none, .mov (.const (.int .i64 (-1)))⟩] [6])
  (.ret))),
  20, [(6, none)], true⟩
/- slices.Grow[[]int,int] (2 operations that the interpreter lacks) -/
def c33 : AFun := ⟨
  .seq (.ops [⟨(some 4), none, .mov (.const (.slice none 0 0))⟩] [0, 1])
  (.seq (.seq (.ops [⟨(some 5), none, .mov (.tmp 1)⟩,
      ⟨(some 6), none, .bin .lss (.tmp 5) (.const (.int .i64 0))⟩] [0, 1, 6])
  (.cond (.tmp 6)
    (.ops [⟨(some 7), none, .mkIf 9 (.const (.string ⟨#[99, 97, 110, 110, 111, 116, 32, 98, 101, 32, 110, 101, 103, 97, 116, 105, 118, 101]⟩))⟩,
        ⟨none, none, .bad⟩] [0, 1])
    (.skip)))
  (.seq (.seq (.ops [⟨(some 8), none, .mov (.tmp 1)⟩,
      ⟨(some 9), none, .mov (.tmp 0)⟩,
      ⟨(some 10), none, .cap (.tmp 9)⟩,
      ⟨(some 11), none, .mov (.tmp 0)⟩,
      ⟨(some 12), none, .len false (.tmp 11)⟩,
      ⟨(some 13), none, .bin .sub (.tmp 10) (.tmp 12)⟩,
      ⟨(some 14), none, .bin .sub (.tmp 8) (.tmp 13)⟩,
      ⟨(some 1), none, .mov (.tmp 14)⟩] [0, 1])
  (.seq (.ops [⟨(some 15), none, .mov (.tmp 1)⟩,
      ⟨(some 16), none, .bin .gtr (.tmp 15) (.const (.int .i64 0))⟩] [0, 1, 16])
  (.cond (.tmp 16)
    (.ops [⟨(some 17), none, .mov (.tmp 0)⟩,
        ⟨(some 18), none, .mov (.tmp 0)⟩,
        ⟨(some 19), none, .cap (.tmp 18)⟩,
        ⟨(some 20), none, .slc 1 (.tmp 17) none (some (.tmp 19)) none⟩,
        ⟨(some 21), none, .mov (.tmp 1)⟩,
        ⟨(some 22), none, .bad⟩,
        ⟨(some 23), none, .mov (.tmp 0)⟩,
        ⟨(some 24), none, .len false (.tmp 23)⟩,
        ⟨(some 25), none, .slc 1 (.tmp 22) none (some (.tmp 24)) none⟩,
        ⟨(some 0), none, .mov (.tmp 25)⟩] [0])
    (.skip))))
  (.seq (.ops [⟨(some 26), none, .mov (.tmp 0)⟩,
      ⟨(some 4), none, .mov (.tmp 26)⟩] [4])
  (.ret)))),
  27, [(4, none)], true⟩
/- math/bits.Mul -/
def c34 : AFun := ⟨
  .seq (.ops [⟨(some 4), none, .mov (.const (.int .u64 0))⟩,
      ⟨(some 5), none, .mov (.const (.int .u64 0))⟩] [0, 1])
  (.seq (.cond (.const (.bool false))
    (.seq (.ops [⟨(some 11), none, .mov (.tmp 0)⟩,
        ⟨(some 12), none, .convI .u32 (.tmp 11)⟩,
        ⟨(some 13), none, .mov (.tmp 1)⟩,
        ⟨(some 14), none, .convI .u32 (.tmp 13)⟩,
        ⟨(some 15), none, .callF 35 [(.tmp 12), (.tmp 14)]⟩,
        ⟨(some 10), none, .mov (.tmp 15)⟩,
        ⟨(some 16), none, .ext (.tmp 10) 0⟩,
        ⟨(some 17), none, .ext (.tmp 10) 1⟩,
        ⟨(some 6), none, .mov (.tmp 16)⟩,
        ⟨(some 7), none, .mov (.tmp 17)⟩] [6, 7])
    (.seq (.ops [⟨(some 18), none, .mov (.tmp 6)⟩,
        ⟨(some 19), none, .convI .u64 (.tmp 18)⟩,
        ⟨(some 20), none, .mov (.tmp 7)⟩,
        ⟨(some 21), none, .convI .u64 (.tmp 20)⟩,
        ⟨(some 4), none, .mov (.tmp 19)⟩,
        ⟨(some 5), none, .mov (.tmp 21)⟩] [4, 5])
    (.ret)))
    (.skip))
  (.seq (.ops [⟨(some 23), none, .mov (.tmp 0)⟩,
      ⟨(some 24), none, .mov (.tmp 1)⟩,
      ⟨(some 25), none, .callF 36 [(.tmp 23), (.tmp 24)]⟩,
      ⟨(some 22), none, .mov (.tmp 25)⟩,
      ⟨(some 26), none, .ext (.tmp 22) 0⟩,
      ⟨(some 27), none, .ext (.tmp 22) 1⟩,
      ⟨(some 8), none, .mov (.tmp 26)⟩,
      ⟨(some 9), none, .mov (.tmp 27)⟩] [8, 9])
  (.seq (.ops [⟨(some 28), none, .mov (.tmp 8)⟩,
      ⟨(some 29), none, .mov (.tmp 9)⟩,
      ⟨(some 4), none, .mov (.tmp 28)⟩,
      ⟨(some 5), none, .mov (.tmp 29)⟩] [4, 5])
  (.ret)))),
  30, [(4, none), (5, none)], true⟩
/- math/bits.Mul32 -/
def c35 : AFun := ⟨
  .seq (.ops [⟨(some 4), none, .mov (.const (.int .u32 0))⟩,
      ⟨(some 5), none, .mov (.const (.int .u32 0))⟩] [0, 1])
  (.seq (.ops [⟨(some 7), none, .mov (.tmp 0)⟩,
      ⟨(some 8), none, .convI .u64 (.tmp 7)⟩,
      ⟨(some 9), none, .mov (.tmp 1)⟩,
      ⟨(some 10), none, .convI .u64 (.tmp 9)⟩,
      ⟨(some 11), none, .bin .mul (.tmp 8) (.tmp 10)⟩,
      ⟨(some 6), none, .mov (.tmp 11)⟩] [6])
  (.seq (.ops [⟨(some 12), none, .mov (.tmp 6)⟩,
      ⟨(some 13), none, .bin .shr (.tmp 12) (.const (.int .u64 32))⟩,
      ⟨(some 14), none, .convI .u32 (.tmp 13)⟩,
      ⟨(some 15), none, .mov (.tmp 6)⟩,
      ⟨(some 16), none, .convI .u32 (.tmp 15)⟩,
      ⟨(some 4), none, .mov (.tmp 14)⟩,
      ⟨(some 5), none, .mov (.tmp 16)⟩] [4, 5])
  (.ret))),
  17, [(4, none), (5, none)], true⟩
/- math/bits.Mul64 -/
def c36 : AFun := ⟨
  .seq (.ops [⟨(some 4), none, .mov (.const (.int .u64 0))⟩,
      ⟨(some 5), none, .mov (.const (.int .u64 0))⟩] [0, 1])
  (.seq (.ops [⟨(some 14), none, .mov (.tmp 0)⟩,
      ⟨(some 15), none, .bin .and (.tmp 14) (.const (.int .u64 4294967295))⟩,
      ⟨(some 6), none, .mov (.tmp 15)⟩] [0, 1, 6])
  (.seq (.ops [⟨(some 16), none, .mov (.tmp 0)⟩,
      ⟨(some 17), none, .bin .shr (.tmp 16) (.const (.int .u64 32))⟩,
      ⟨(some 7), none, .mov (.tmp 17)⟩] [0, 1, 6, 7])
  (.seq (.ops [⟨(some 18), none, .mov (.tmp 1)⟩,
      ⟨(some 19), none, .bin .and (.tmp 18) (.const (.int .u64 4294967295))⟩,
      ⟨(some 8), none, .mov (.tmp 19)⟩] [0, 1, 6, 7, 8])
  (.seq (.ops [⟨(some 20), none, .mov (.tmp 1)⟩,
      ⟨(some 21), none, .bin .shr (.tmp 20) (.const (.int .u64 32))⟩,
      ⟨(some 9), none, .mov (.tmp 21)⟩] [0, 1, 6, 7, 8, 9])
  (.seq (.ops [⟨(some 22), none, .mov (.tmp 6)⟩,
      ⟨(some 23), none, .mov (.tmp 8)⟩,
      ⟨(some 24), none, .bin .mul (.tmp 22) (.tmp 23)⟩,
      ⟨(some 10), none, .mov (.tmp 24)⟩] [0, 1, 6, 7, 8, 9, 10])
  (.seq (.ops [⟨(some 25), none, .mov (.tmp 7)⟩,
      ⟨(some 26), none, .mov (.tmp 8)⟩,
      ⟨(some 27), none, .bin .mul (.tmp 25) (.tmp 26)⟩,
      ⟨(some 28), none, .mov (.tmp 10)⟩,
      ⟨(some 29), none, .bin .shr (.tmp 28) (.const (.int .u64 32))⟩,
      ⟨(some 30), none, .bin .add (.tmp 27) (.tmp 29)⟩,
      ⟨(some 11), none, .mov (.tmp 30)⟩] [0, 1, 6, 7, 9, 11])
  (.seq (.ops [⟨(some 31), none, .mov (.tmp 11)⟩,
      ⟨(some 32), none, .bin .and (.tmp 31) (.const (.int .u64 4294967295))⟩,
      ⟨(some 12), none, .mov (.tmp 32)⟩] [0, 1, 6, 7, 9, 11, 12])
  (.seq (.ops [⟨(some 33), none, .mov (.tmp 11)⟩,
      ⟨(some 34), none, .bin .shr (.tmp 33) (.const (.int .u64 32))⟩,
      ⟨(some 13), none, .mov (.tmp 34)⟩] [0, 1, 6, 7, 9, 12, 13])
  (.seq (.ops [⟨(some 35), none, .mov (.tmp 12)⟩,
      ⟨(some 36), none, .mov (.tmp 6)⟩,
      ⟨(some 37), none, .mov (.tmp 9)⟩,
      ⟨(some 38), none, .bin .mul (.tmp 36) (.tmp 37)⟩,
      ⟨(some 39), none, .bin .add (.tmp 35) (.tmp 38)⟩,
      ⟨(some 12), none, .mov (.tmp 39)⟩] [0, 1, 7, 9, 12, 13])
  (.seq (.ops [⟨(some 40), none, .mov (.tmp 7)⟩,
      ⟨(some 41), none, .mov (.tmp 9)⟩,
      ⟨(some 42), none, .bin .mul (.tmp 40) (.tmp 41)⟩,
      ⟨(some 43), none, .mov (.tmp 13)⟩,
      ⟨(some 44), none, .bin .add (.tmp 42) (.tmp 43)⟩,
      ⟨(some 45), none, .mov (.tmp 12)⟩,
      ⟨(some 46), none, .bin .shr (.tmp 45) (.const (.int .u64 32))⟩,
      ⟨(some 47), none, .bin .add (.tmp 44) (.tmp 46)⟩,
      ⟨(some 4), none, .mov (.tmp 47)⟩] [0, 1, 4])
  (.seq (.ops [⟨(some 48), none, .mov (.tmp 0)⟩,
      ⟨(some 49), none, .mov (.tmp 1)⟩,
      ⟨(some 50), none, .bin .mul (.tmp 48) (.tmp 49)⟩,
      ⟨(some 5), none, .mov (.tmp 50)⟩] [4, 5])
  (.ret)))))))))))),
  51, [(4, none), (5, none)], true⟩
theorem ok3 : FunOK Try.prog 3 c3 := ⟨⟨Try.f3, _, c3.code, Try.func3, rfl, by kernel_rfl, rfl, by kernel_rfl, by kernel_rfl⟩⟩
theorem ok4 : FunOK Try.prog 4 c4 := ⟨⟨Try.f4, _, c4.code, Try.func4, rfl, by kernel_rfl, rfl, by kernel_rfl, by kernel_rfl⟩⟩
theorem ok5 : FunOK Try.prog 5 c5 := ⟨⟨Try.f5, _, c5.code, Try.func5, rfl, by kernel_rfl, rfl, by kernel_rfl, by kernel_rfl⟩⟩
theorem ok6 : FunOK Try.prog 6 c6 := ⟨⟨Try.f6, _, c6.code, Try.func6, rfl, by kernel_rfl, rfl, by kernel_rfl, by kernel_rfl⟩⟩
theorem ok7 : FunOK Try.prog 7 c7 := ⟨⟨Try.f7, _, c7.code, Try.func7, rfl, by kernel_rfl, rfl, by kernel_rfl, by kernel_rfl⟩⟩
theorem ok8 : FunOK Try.prog 8 c8 := ⟨⟨Try.f8, _, c8.code, Try.func8, rfl, by kernel_rfl, rfl, by kernel_rfl, by kernel_rfl⟩⟩
theorem ok9 : FunOK Try.prog 9 c9 := ⟨⟨Try.f9, _, c9.code, Try.func9, rfl, by kernel_rfl, rfl, by kernel_rfl, by kernel_rfl⟩⟩
theorem ok10 : FunOK Try.prog 10 c10 := ⟨⟨Try.f10, _, c10.code, Try.func10, rfl, by kernel_rfl, rfl, by kernel_rfl, by kernel_rfl⟩⟩
theorem ok11 : FunOK Try.prog 11 c11 := ⟨⟨Try.f11, _, c11.code, Try.func11, rfl, by kernel_rfl, rfl, by kernel_rfl, by kernel_rfl⟩⟩
theorem ok12 : FunOK Try.prog 12 c12 := ⟨⟨Try.f12, _, c12.code, Try.func12, rfl, by kernel_rfl, rfl, by kernel_rfl, by kernel_rfl⟩⟩
theorem ok13 : FunOK Try.prog 13 c13 := ⟨⟨Try.f13, _, c13.code, Try.func13, rfl, by kernel_rfl, rfl, by kernel_rfl, by kernel_rfl⟩⟩
theorem ok14 : FunOK Try.prog 14 c14 := ⟨⟨Try.f14, _, c14.code, Try.func14, rfl, by kernel_rfl, rfl, by kernel_rfl, by kernel_rfl⟩⟩
theorem ok15 : FunOK Try.prog 15 c15 := ⟨⟨Try.f15, _, c15.code, Try.func15, rfl, by kernel_rfl, rfl, by kernel_rfl, by kernel_rfl⟩⟩
theorem ok16 : FunOK Try.prog 16 c16 := ⟨⟨Try.f16, _, c16.code, Try.func16, rfl, by kernel_rfl, rfl, by kernel_rfl, by kernel_rfl⟩⟩
theorem ok17 : FunOK Try.prog 17 c17 := ⟨⟨Try.f17, _, c17.code, Try.func17, rfl, by kernel_rfl, rfl, by kernel_rfl, by kernel_rfl⟩⟩
theorem ok18 : FunOK Try.prog 18 c18 := ⟨⟨Try.f18, _, c18.code, Try.func18, rfl, by kernel_rfl, rfl, by kernel_rfl, by kernel_rfl⟩⟩
theorem ok19 : FunOK Try.prog 19 c19 := ⟨⟨Try.f19, _, c19.code, Try.func19, rfl, by kernel_rfl, rfl, by kernel_rfl, by kernel_rfl⟩⟩
theorem ok20 : FunOK Try.prog 20 c20 := ⟨⟨Try.f20, _, c20.code, Try.func20, rfl, by kernel_rfl, rfl, by kernel_rfl, by kernel_rfl⟩⟩
theorem ok21 : FunOK Try.prog 21 c21 := ⟨⟨Try.f21, _, c21.code, Try.func21, rfl, by kernel_rfl, rfl, by kernel_rfl, by kernel_rfl⟩⟩
theorem ok22 : FunOK Try.prog 22 c22 := ⟨⟨Try.f22, _, c22.code, Try.func22, rfl, by kernel_rfl, rfl, by kernel_rfl, by kernel_rfl⟩⟩
theorem ok23 : FunOK Try.prog 23 c23 := ⟨⟨Try.f23, _, c23.code, Try.func23, rfl, by kernel_rfl, rfl, by kernel_rfl, by kernel_rfl⟩⟩
theorem ok24 : FunOK Try.prog 24 c24 := ⟨⟨Try.f24, _, c24.code, Try.func24, rfl, by kernel_rfl, rfl, by kernel_rfl, by kernel_rfl⟩⟩
theorem ok25 : FunOK Try.prog 25 c25 := ⟨⟨Try.f25, _, c25.code, Try.func25, rfl, by kernel_rfl, rfl, by kernel_rfl, by kernel_rfl⟩⟩
theorem ok26 : FunOK Try.prog 26 c26 := ⟨⟨Try.f26, _, c26.code, Try.func26, rfl, by kernel_rfl, rfl, by kernel_rfl, by kernel_rfl⟩⟩
theorem ok27 : FunOK Try.prog 27 c27 := ⟨⟨Try.f27, _, c27.code, Try.func27, rfl, by kernel_rfl, rfl, by kernel_rfl, by kernel_rfl⟩⟩
theorem ok28 : FunOK Try.prog 28 c28 := ⟨⟨Try.f28, _, c28.code, Try.func28, rfl, by kernel_rfl, rfl, by kernel_rfl, by kernel_rfl⟩⟩
theorem ok29 : FunOK Try.prog 29 c29 := ⟨⟨Try.f29, _, c29.code, Try.func29, rfl, by kernel_rfl, rfl, by kernel_rfl, by kernel_rfl⟩⟩
theorem ok30 : FunOK Try.prog 30 c30 := ⟨⟨Try.f30, _, c30.code, Try.func30, rfl, by kernel_rfl, rfl, by kernel_rfl, by kernel_rfl⟩⟩
theorem ok31 : FunOK Try.prog 31 c31 := ⟨⟨Try.f31, _, c31.code, Try.func31, rfl, by kernel_rfl, rfl, by kernel_rfl, by kernel_rfl⟩⟩
theorem ok32 : FunOK Try.prog 32 c32 := ⟨⟨Try.f32, _, c32.code, Try.func32, rfl, by kernel_rfl, rfl, by kernel_rfl, by kernel_rfl⟩⟩
theorem ok33 : FunOK Try.prog 33 c33 := ⟨⟨Try.f33, _, c33.code, Try.func33, rfl, by kernel_rfl, rfl, by kernel_rfl, by kernel_rfl⟩⟩
theorem ok34 : FunOK Try.prog 34 c34 := ⟨⟨Try.f34, _, c34.code, Try.func34, rfl, by kernel_rfl, rfl, by kernel_rfl, by kernel_rfl⟩⟩
theorem ok35 : FunOK Try.prog 35 c35 := ⟨⟨Try.f35, _, c35.code, Try.func35, rfl, by kernel_rfl, rfl, by kernel_rfl, by kernel_rfl⟩⟩
theorem ok36 : FunOK Try.prog 36 c36 := ⟨⟨Try.f36, _, c36.code, Try.func36, rfl, by kernel_rfl, rfl, by kernel_rfl, by kernel_rfl⟩⟩
def fns : FuncId → Option AFun
  | 3 => some c3
  | 4 => some c4
  | 5 => some c5
  | 6 => some c6
  | 7 => some c7
  | 8 => some c8
  | 9 => some c9
  | 10 => some c10
  | 11 => some c11
  | 12 => some c12
  | 13 => some c13
  | 14 => some c14
  | 15 => some c15
  | 16 => some c16
  | 17 => some c17
  | 18 => some c18
  | 19 => some c19
  | 20 => some c20
  | 21 => some c21
  | 22 => some c22
  | 23 => some c23
  | 24 => some c24
  | 25 => some c25
  | 26 => some c26
  | 27 => some c27
  | 28 => some c28
  | 29 => some c29
  | 30 => some c30
  | 31 => some c31
  | 32 => some c32
  | 33 => some c33
  | 34 => some c34
  | 35 => some c35
  | 36 => some c36
  | _ => none
theorem fns_ok : FunsOK Try.prog fns := by
  intro f af h
  unfold fns at h
  split at h
  · cases h; exact ok3
  · cases h; exact ok4
  · cases h; exact ok5
  · cases h; exact ok6
  · cases h; exact ok7
  · cases h; exact ok8
  · cases h; exact ok9
  · cases h; exact ok10
  · cases h; exact ok11
  · cases h; exact ok12
  · cases h; exact ok13
  · cases h; exact ok14
  · cases h; exact ok15
  · cases h; exact ok16
  · cases h; exact ok17
  · cases h; exact ok18
  · cases h; exact ok19
  · cases h; exact ok20
  · cases h; exact ok21
  · cases h; exact ok22
  · cases h; exact ok23
  · cases h; exact ok24
  · cases h; exact ok25
  · cases h; exact ok26
  · cases h; exact ok27
  · cases h; exact ok28
  · cases h; exact ok29
  · cases h; exact ok30
  · cases h; exact ok31
  · cases h; exact ok32
  · cases h; exact ok33
  · cases h; exact ok34
  · cases h; exact ok35
  · cases h; exact ok36
  · cases h
end Go.Proofs.Ytkjkiodoighgnaa
namespace Go.Proofs.Ytkjkiodoighgnaa
open Go Go.Itp
set_option linter.unusedSimpArgs false
set_option linter.unusedVariables false
abbrev EN (w : World) (n : Nat) : Env := callP (oldOf w) many fns (fun _ _ _ => none) n
abbrev vI : Int → Value := .int .i64

/-! ### comparing lists -/
theorem same_p (w : World) (n : Nat) {u v : Value} {l m : List Int} {h : Heap} {nx p : Nat} (hu : Rd (oldOf w) h vI u l) (hv : Rd (oldOf w) h vI v m) (hl : l.length ≤ 1000000) (hm : m.length ≤ 1000000) :
    (EN w (n + 1)).pcall 10 [u, v] ⟨h, nx, p⟩ = some (.bool (decide (l = m)), []) := by
  refine pcall_eq rfl rfl (Nat.le_of_ble_eq_true rfl) ?_
  by_cases hlen : l.length = m.length
  · simp (disch := first | omega | assumption | exact callP_old _ _ _ _ _ | exact one_int _ _ | exact one_bool _ | exact one_string _ | exact one_slice _ _ _ | exact one_pointer _ | exact hget_push_one _ _ _ _ (by omega) | (simp only [List.length_map, List.length_set, List.length_replicate]; omega) | (rw [hget_push_lt _ _ _ _ (by omega)]; first | assumption | exact hget_push_one _ _ _ _ (by omega))) only [runK_nil, runK_seq, runK_seq_exit, runK_seq_ret, runK_block_normal, runK_block_exit, runK_block_ret, go_skip, go_ret, go_exit, go_seq, go_block, go_ops, goO_nil, goO_cons, goV_some, goO_guard, goG_yes, goG_tf, goG_ft, go_cond, goI_true, goI_false, go_draw, goP_nil, goP_cons, goPV_some, goP_guard, goPG_yes, goPG_tf, goPG_ft, does_some, loopP_normal, loopP_exit, loopP_ret, contE_eq, contR_eq, row0, row1, row2, row3, expand_one, replicate_int, replicate_bool, mkSlice_one, idxS_new, idxA_new, len_slice, hget_set_self, Option.map_some, set_int, set_bool, get_set_eq, get_set_ne, op1_some, op2_some, ret1_some, retP_some, retB_some, push_eq, pickX_true, pickX_false, callR_some, callR_none, callX_some, callY_some, slcSX_some, slcX_some, slcAX_some, s_mov, s_pick, s_alloc, s_box, s_build, s_mkRow, s_load, s_nilChk, s_bin, s_eqB, s_eqNil, s_un, s_convI, s_convS, s_b2s, s_mkSlice, s_slcS, s_slc, s_slcA, s_fldA, s_fldV, s_idxS, s_idxA, s_idxStr, s_idxV, s_ext, s_mkFn, s_mkIf, s_len, s_mm, s_cap, s_eqIf, s_callF, s_callV, s_app, s_store, s_copy, q_mov, q_pick, q_alloc, q_box, q_build, q_mkRow, q_load, q_nilChk, q_bin, q_eqB, q_eqNil, q_un, q_convI, q_convS, q_b2s, q_mkSlice, q_slcS, q_slc, q_slcA, q_fldA, q_fldV, q_idxS, q_idxA, q_idxStr, q_idxV, q_ext, q_mkFn, q_mkIf, q_len, q_mm, q_callF, q_cap, q_eqIf, evs_nil, consO_some, evs_cons, evO_none, mapO_some, evO_some, evParts_nil, consP_some, evParts_cons, hiddenHeap_nil, hiddenHeap_true, hiddenHeap_false, hiddenHeap_all, hpush_nil, ev_tmp, ev_const, fget_cons', fput_nil, fput_cons', fputO_some, fputO_none, elemB_nil, elemB_cons', fkeep_nil, fkeep_cons', args0, slotsL, opdsA, List.cons_append, List.nil_append, List.map_cons, List.map_nil, List.append_nil, Option.toList_some, Option.toList_none, decide_yes, decide_no, b_lss, b_leq, b_gtr, b_geq, b_eql, b_neq, b_add, b_sub, b_mul, b_quo_pos, b_rem_pos, b_seql, b_sneq, wrap64, u_not, u_neg, not_decide', eqB_f, eqB_t, idxNat_in, mm_max, mm_min, convI_int, ext_tuple, lget_zero, lget_succ, loadA_old, aload_old, callP_old, callP_rounds, gcO_some, retE_ret, retE_normal, Value.int.injEq, Value.bool.injEq, Value.string.injEq, true_and, and_true, and_self, retP_ret, retP_normal, retX_some, retW_ret, retW_normal, retWX_some, resOf_nil, resOf_tmp, resOf_cell, tupleOf_one, tupleOf_two, loadO_new, loadB_some, Nat.reduceEqDiff, Nat.reduceLT, Nat.reduceAdd, Nat.reduceBEq, Int.reduceAdd, Int.reduceSub, Int.reduceLT, Int.reduceLE, Int.reduceEq, Int.reduceNeg, ↓reduceIte, if_true, if_false, Bool.false_eq_true, Bool.not_true, Bool.not_false, List.length_cons, List.length_nil, List.length_singleton, reduceCtorEq, Int.toNat_natCast, decide_true, decide_false, Nat.zero_add, Nat.add_zero, Int.add_sub_cancel, eq_self, not_true_eq_false, not_false_eq_true, hget_push_one, hget_push_lt, hget_push_gt, hget_set_ne, storeA_new, storeB_some, one_int, one_bool, one_string, one_slice, one_pointer, lget_map, gc_int, gc_bool, gc_string, gc_nil_int, gc_int_int, gc_string_int, Option.some.injEq, Prod.mk.injEq, hu.len, hv.len]
    refine does_while (fun q fr t => ∃ k : Nat, q = l.length - k ∧ k ≤ l.length ∧ fr = [(0, u), (1, v), (5, .int .i64 k)] ∧ t = ⟨h, nx, nx⟩ ∧ ∀ j, j < k → l[j]! = m[j]!) (m := l.length) ?_ ?_ ?_
    · exact ⟨0, by omega, by omega, rfl, rfl, by omega⟩
    · simp (disch := first | omega | assumption | exact callP_old _ _ _ _ _ | exact one_int _ _ | exact one_bool _ | exact one_string _ | exact one_slice _ _ _ | exact one_pointer _ | exact hget_push_one _ _ _ _ (by omega) | (simp only [List.length_map, List.length_set, List.length_replicate]; omega) | (rw [hget_push_lt _ _ _ _ (by omega)]; first | assumption | exact hget_push_one _ _ _ _ (by omega))) only [runK_nil, runK_seq, runK_seq_exit, runK_seq_ret, runK_block_normal, runK_block_exit, runK_block_ret, go_skip, go_ret, go_exit, go_seq, go_block, go_ops, goO_nil, goO_cons, goV_some, goO_guard, goG_yes, goG_tf, goG_ft, go_cond, goI_true, goI_false, go_draw, goP_nil, goP_cons, goPV_some, goP_guard, goPG_yes, goPG_tf, goPG_ft, does_some, loopP_normal, loopP_exit, loopP_ret, contE_eq, contR_eq, row0, row1, row2, row3, expand_one, replicate_int, replicate_bool, mkSlice_one, idxS_new, idxA_new, len_slice, hget_set_self, Option.map_some, set_int, set_bool, get_set_eq, get_set_ne, op1_some, op2_some, ret1_some, retP_some, retB_some, push_eq, pickX_true, pickX_false, callR_some, callR_none, callX_some, callY_some, slcSX_some, slcX_some, slcAX_some, s_mov, s_pick, s_alloc, s_box, s_build, s_mkRow, s_load, s_nilChk, s_bin, s_eqB, s_eqNil, s_un, s_convI, s_convS, s_b2s, s_mkSlice, s_slcS, s_slc, s_slcA, s_fldA, s_fldV, s_idxS, s_idxA, s_idxStr, s_idxV, s_ext, s_mkFn, s_mkIf, s_len, s_mm, s_cap, s_eqIf, s_callF, s_callV, s_app, s_store, s_copy, q_mov, q_pick, q_alloc, q_box, q_build, q_mkRow, q_load, q_nilChk, q_bin, q_eqB, q_eqNil, q_un, q_convI, q_convS, q_b2s, q_mkSlice, q_slcS, q_slc, q_slcA, q_fldA, q_fldV, q_idxS, q_idxA, q_idxStr, q_idxV, q_ext, q_mkFn, q_mkIf, q_len, q_mm, q_callF, q_cap, q_eqIf, evs_nil, consO_some, evs_cons, evO_none, mapO_some, evO_some, evParts_nil, consP_some, evParts_cons, hiddenHeap_nil, hiddenHeap_true, hiddenHeap_false, hiddenHeap_all, hpush_nil, ev_tmp, ev_const, fget_cons', fput_nil, fput_cons', fputO_some, fputO_none, elemB_nil, elemB_cons', fkeep_nil, fkeep_cons', args0, slotsL, opdsA, List.cons_append, List.nil_append, List.map_cons, List.map_nil, List.append_nil, Option.toList_some, Option.toList_none, decide_yes, decide_no, b_lss, b_leq, b_gtr, b_geq, b_eql, b_neq, b_add, b_sub, b_mul, b_quo_pos, b_rem_pos, b_seql, b_sneq, wrap64, u_not, u_neg, not_decide', eqB_f, eqB_t, idxNat_in, mm_max, mm_min, convI_int, ext_tuple, lget_zero, lget_succ, loadA_old, aload_old, callP_old, callP_rounds, gcO_some, retE_ret, retE_normal, Value.int.injEq, Value.bool.injEq, Value.string.injEq, true_and, and_true, and_self, retP_ret, retP_normal, retX_some, retW_ret, retW_normal, retWX_some, resOf_nil, resOf_tmp, resOf_cell, tupleOf_one, tupleOf_two, loadO_new, loadB_some, Nat.reduceEqDiff, Nat.reduceLT, Nat.reduceAdd, Nat.reduceBEq, Int.reduceAdd, Int.reduceSub, Int.reduceLT, Int.reduceLE, Int.reduceEq, Int.reduceNeg, ↓reduceIte, if_true, if_false, Bool.false_eq_true, Bool.not_true, Bool.not_false, List.length_cons, List.length_nil, List.length_singleton, reduceCtorEq, Int.toNat_natCast, decide_true, decide_false, Nat.zero_add, Nat.add_zero, Int.add_sub_cancel, eq_self, not_true_eq_false, not_false_eq_true, hget_push_one, hget_push_lt, hget_push_gt, hget_set_ne, storeA_new, storeB_some, one_int, one_bool, one_string, one_slice, one_pointer, lget_map, gc_int, gc_bool, gc_string, gc_nil_int, gc_int_int, gc_string_int, Option.some.injEq, Prod.mk.injEq]
      unfold many; omega
    · rintro q fr t ⟨k, rfl, hk, rfl, rfl, hj⟩
      repeat' (first | (simp (disch := first | omega | assumption | exact callP_old _ _ _ _ _ | exact one_int _ _ | exact one_bool _ | exact one_string _ | exact one_slice _ _ _ | exact one_pointer _ | exact hget_push_one _ _ _ _ (by omega) | (simp only [List.length_map, List.length_set, List.length_replicate]; omega) | (rw [hget_push_lt _ _ _ _ (by omega)]; first | assumption | exact hget_push_one _ _ _ _ (by omega))) only [runK_nil, runK_seq, runK_seq_exit, runK_seq_ret, runK_block_normal, runK_block_exit, runK_block_ret, go_skip, go_ret, go_exit, go_seq, go_block, go_ops, goO_nil, goO_cons, goV_some, goO_guard, goG_yes, goG_tf, goG_ft, go_cond, goI_true, goI_false, go_draw, goP_nil, goP_cons, goPV_some, goP_guard, goPG_yes, goPG_tf, goPG_ft, does_some, loopP_normal, loopP_exit, loopP_ret, contE_eq, contR_eq, row0, row1, row2, row3, expand_one, replicate_int, replicate_bool, mkSlice_one, idxS_new, idxA_new, len_slice, hget_set_self, Option.map_some, set_int, set_bool, get_set_eq, get_set_ne, op1_some, op2_some, ret1_some, retP_some, retB_some, push_eq, pickX_true, pickX_false, callR_some, callR_none, callX_some, callY_some, slcSX_some, slcX_some, slcAX_some, s_mov, s_pick, s_alloc, s_box, s_build, s_mkRow, s_load, s_nilChk, s_bin, s_eqB, s_eqNil, s_un, s_convI, s_convS, s_b2s, s_mkSlice, s_slcS, s_slc, s_slcA, s_fldA, s_fldV, s_idxS, s_idxA, s_idxStr, s_idxV, s_ext, s_mkFn, s_mkIf, s_len, s_mm, s_cap, s_eqIf, s_callF, s_callV, s_app, s_store, s_copy, q_mov, q_pick, q_alloc, q_box, q_build, q_mkRow, q_load, q_nilChk, q_bin, q_eqB, q_eqNil, q_un, q_convI, q_convS, q_b2s, q_mkSlice, q_slcS, q_slc, q_slcA, q_fldA, q_fldV, q_idxS, q_idxA, q_idxStr, q_idxV, q_ext, q_mkFn, q_mkIf, q_len, q_mm, q_callF, q_cap, q_eqIf, evs_nil, consO_some, evs_cons, evO_none, mapO_some, evO_some, evParts_nil, consP_some, evParts_cons, hiddenHeap_nil, hiddenHeap_true, hiddenHeap_false, hiddenHeap_all, hpush_nil, ev_tmp, ev_const, fget_cons', fput_nil, fput_cons', fputO_some, fputO_none, elemB_nil, elemB_cons', fkeep_nil, fkeep_cons', args0, slotsL, opdsA, List.cons_append, List.nil_append, List.map_cons, List.map_nil, List.append_nil, Option.toList_some, Option.toList_none, decide_yes, decide_no, b_lss, b_leq, b_gtr, b_geq, b_eql, b_neq, b_add, b_sub, b_mul, b_quo_pos, b_rem_pos, b_seql, b_sneq, wrap64, u_not, u_neg, not_decide', eqB_f, eqB_t, idxNat_in, mm_max, mm_min, convI_int, ext_tuple, lget_zero, lget_succ, loadA_old, aload_old, callP_old, callP_rounds, gcO_some, retE_ret, retE_normal, Value.int.injEq, Value.bool.injEq, Value.string.injEq, true_and, and_true, and_self, retP_ret, retP_normal, retX_some, retW_ret, retW_normal, retWX_some, resOf_nil, resOf_tmp, resOf_cell, tupleOf_one, tupleOf_two, loadO_new, loadB_some, Nat.reduceEqDiff, Nat.reduceLT, Nat.reduceAdd, Nat.reduceBEq, Int.reduceAdd, Int.reduceSub, Int.reduceLT, Int.reduceLE, Int.reduceEq, Int.reduceNeg, ↓reduceIte, if_true, if_false, Bool.false_eq_true, Bool.not_true, Bool.not_false, List.length_cons, List.length_nil, List.length_singleton, reduceCtorEq, Int.toNat_natCast, decide_true, decide_false, Nat.zero_add, Nat.add_zero, Int.add_sub_cancel, eq_self, not_true_eq_false, not_false_eq_true, hget_push_one, hget_push_lt, hget_push_gt, hget_set_ne, storeA_new, storeB_some, one_int, one_bool, one_string, one_slice, one_pointer, lget_map, gc_int, gc_bool, gc_string, gc_nil_int, gc_int_int, gc_string_int, Option.some.injEq, Prod.mk.injEq, c10l0, hu.len, hu.idx, hu.load, hv.len, hv.idx, hv.load, vI]) | (refine does_goI_dec (fun _ => ?_) (fun _ => ?_)) | (refine does_goG_dec (fun _ => ?_) (fun _ => ?_)) | (refine does_goI (fun _ => ?_) (fun _ => ?_)) | (refine does_goG (fun _ => ?_) (fun _ => ?_)))
      · rename_i h1 h2
        exact (decide_no fun e => h2 (by rw [e])).symm
      · rename_i h1 h2
        refine ⟨_, ?_, k + 1, rfl, by omega, by simp, fun j hj' => ?_⟩
        · omega
        · rcases Nat.lt_succ_iff_lt_or_eq.1 hj' with h' | rfl
          · exact hj j h'
          · exact Decidable.not_not.1 h2
      · rename_i h1
        refine (decide_yes (List.ext_getElem hlen ?_)).symm
        intro j h2 h3
        have := hj j (by omega)
        rwa [getElem!_pos l j h2, getElem!_pos m j h3] at this
  · repeat' (first | (simp (disch := first | omega | assumption | exact callP_old _ _ _ _ _ | exact one_int _ _ | exact one_bool _ | exact one_string _ | exact one_slice _ _ _ | exact one_pointer _ | exact hget_push_one _ _ _ _ (by omega) | (simp only [List.length_map, List.length_set, List.length_replicate]; omega) | (rw [hget_push_lt _ _ _ _ (by omega)]; first | assumption | exact hget_push_one _ _ _ _ (by omega))) only [runK_nil, runK_seq, runK_seq_exit, runK_seq_ret, runK_block_normal, runK_block_exit, runK_block_ret, go_skip, go_ret, go_exit, go_seq, go_block, go_ops, goO_nil, goO_cons, goV_some, goO_guard, goG_yes, goG_tf, goG_ft, go_cond, goI_true, goI_false, go_draw, goP_nil, goP_cons, goPV_some, goP_guard, goPG_yes, goPG_tf, goPG_ft, does_some, loopP_normal, loopP_exit, loopP_ret, contE_eq, contR_eq, row0, row1, row2, row3, expand_one, replicate_int, replicate_bool, mkSlice_one, idxS_new, idxA_new, len_slice, hget_set_self, Option.map_some, set_int, set_bool, get_set_eq, get_set_ne, op1_some, op2_some, ret1_some, retP_some, retB_some, push_eq, pickX_true, pickX_false, callR_some, callR_none, callX_some, callY_some, slcSX_some, slcX_some, slcAX_some, s_mov, s_pick, s_alloc, s_box, s_build, s_mkRow, s_load, s_nilChk, s_bin, s_eqB, s_eqNil, s_un, s_convI, s_convS, s_b2s, s_mkSlice, s_slcS, s_slc, s_slcA, s_fldA, s_fldV, s_idxS, s_idxA, s_idxStr, s_idxV, s_ext, s_mkFn, s_mkIf, s_len, s_mm, s_cap, s_eqIf, s_callF, s_callV, s_app, s_store, s_copy, q_mov, q_pick, q_alloc, q_box, q_build, q_mkRow, q_load, q_nilChk, q_bin, q_eqB, q_eqNil, q_un, q_convI, q_convS, q_b2s, q_mkSlice, q_slcS, q_slc, q_slcA, q_fldA, q_fldV, q_idxS, q_idxA, q_idxStr, q_idxV, q_ext, q_mkFn, q_mkIf, q_len, q_mm, q_callF, q_cap, q_eqIf, evs_nil, consO_some, evs_cons, evO_none, mapO_some, evO_some, evParts_nil, consP_some, evParts_cons, hiddenHeap_nil, hiddenHeap_true, hiddenHeap_false, hiddenHeap_all, hpush_nil, ev_tmp, ev_const, fget_cons', fput_nil, fput_cons', fputO_some, fputO_none, elemB_nil, elemB_cons', fkeep_nil, fkeep_cons', args0, slotsL, opdsA, List.cons_append, List.nil_append, List.map_cons, List.map_nil, List.append_nil, Option.toList_some, Option.toList_none, decide_yes, decide_no, b_lss, b_leq, b_gtr, b_geq, b_eql, b_neq, b_add, b_sub, b_mul, b_quo_pos, b_rem_pos, b_seql, b_sneq, wrap64, u_not, u_neg, not_decide', eqB_f, eqB_t, idxNat_in, mm_max, mm_min, convI_int, ext_tuple, lget_zero, lget_succ, loadA_old, aload_old, callP_old, callP_rounds, gcO_some, retE_ret, retE_normal, Value.int.injEq, Value.bool.injEq, Value.string.injEq, true_and, and_true, and_self, retP_ret, retP_normal, retX_some, retW_ret, retW_normal, retWX_some, resOf_nil, resOf_tmp, resOf_cell, tupleOf_one, tupleOf_two, loadO_new, loadB_some, Nat.reduceEqDiff, Nat.reduceLT, Nat.reduceAdd, Nat.reduceBEq, Int.reduceAdd, Int.reduceSub, Int.reduceLT, Int.reduceLE, Int.reduceEq, Int.reduceNeg, ↓reduceIte, if_true, if_false, Bool.false_eq_true, Bool.not_true, Bool.not_false, List.length_cons, List.length_nil, List.length_singleton, reduceCtorEq, Int.toNat_natCast, decide_true, decide_false, Nat.zero_add, Nat.add_zero, Int.add_sub_cancel, eq_self, not_true_eq_false, not_false_eq_true, hget_push_one, hget_push_lt, hget_push_gt, hget_set_ne, storeA_new, storeB_some, one_int, one_bool, one_string, one_slice, one_pointer, lget_map, gc_int, gc_bool, gc_string, gc_nil_int, gc_int_int, gc_string_int, Option.some.injEq, Prod.mk.injEq, hu.len, hv.len]) | (refine does_goI_dec (fun _ => ?_) (fun _ => ?_)) | (refine does_goG_dec (fun _ => ?_) (fun _ => ?_)) | (refine does_goI (fun _ => ?_) (fun _ => ?_)) | (refine does_goG (fun _ => ?_) (fun _ => ?_)))
    exact (decide_no fun e => hlen (by rw [e])).symm

/-! ### checks -/
def great (l : List Int) : Bool := decide (60 < l.length ∧ l.length ≤ 400 ∨ 420 < l.length)
theorem great_p (w : World) (n : Nat) {v : Value} {l : List Int} {h : Heap} {nx p : Nat} (hv : Rd (oldOf w) h vI v l) : (EN w (n + 1)).pcall 5 [v] ⟨h, nx, p⟩ = some (.bool (great l), []) := by
  refine pcall_eq rfl rfl (Nat.le_of_ble_eq_true rfl) ?_
  by_cases h1 : (60 : Int) < l.length <;> by_cases h2 : (l.length : Int) ≤ 400 <;> by_cases h3 : (420 : Int) < l.length <;> repeat' (first | (simp (disch := first | omega | assumption | exact callP_old _ _ _ _ _ | exact one_int _ _ | exact one_bool _ | exact one_string _ | exact one_slice _ _ _ | exact one_pointer _ | exact hget_push_one _ _ _ _ (by omega) | (simp only [List.length_map, List.length_set, List.length_replicate]; omega) | (rw [hget_push_lt _ _ _ _ (by omega)]; first | assumption | exact hget_push_one _ _ _ _ (by omega))) only [runK_nil, runK_seq, runK_seq_exit, runK_seq_ret, runK_block_normal, runK_block_exit, runK_block_ret, go_skip, go_ret, go_exit, go_seq, go_block, go_ops, goO_nil, goO_cons, goV_some, goO_guard, goG_yes, goG_tf, goG_ft, go_cond, goI_true, goI_false, go_draw, goP_nil, goP_cons, goPV_some, goP_guard, goPG_yes, goPG_tf, goPG_ft, does_some, loopP_normal, loopP_exit, loopP_ret, contE_eq, contR_eq, row0, row1, row2, row3, expand_one, replicate_int, replicate_bool, mkSlice_one, idxS_new, idxA_new, len_slice, hget_set_self, Option.map_some, set_int, set_bool, get_set_eq, get_set_ne, op1_some, op2_some, ret1_some, retP_some, retB_some, push_eq, pickX_true, pickX_false, callR_some, callR_none, callX_some, callY_some, slcSX_some, slcX_some, slcAX_some, s_mov, s_pick, s_alloc, s_box, s_build, s_mkRow, s_load, s_nilChk, s_bin, s_eqB, s_eqNil, s_un, s_convI, s_convS, s_b2s, s_mkSlice, s_slcS, s_slc, s_slcA, s_fldA, s_fldV, s_idxS, s_idxA, s_idxStr, s_idxV, s_ext, s_mkFn, s_mkIf, s_len, s_mm, s_cap, s_eqIf, s_callF, s_callV, s_app, s_store, s_copy, q_mov, q_pick, q_alloc, q_box, q_build, q_mkRow, q_load, q_nilChk, q_bin, q_eqB, q_eqNil, q_un, q_convI, q_convS, q_b2s, q_mkSlice, q_slcS, q_slc, q_slcA, q_fldA, q_fldV, q_idxS, q_idxA, q_idxStr, q_idxV, q_ext, q_mkFn, q_mkIf, q_len, q_mm, q_callF, q_cap, q_eqIf, evs_nil, consO_some, evs_cons, evO_none, mapO_some, evO_some, evParts_nil, consP_some, evParts_cons, hiddenHeap_nil, hiddenHeap_true, hiddenHeap_false, hiddenHeap_all, hpush_nil, ev_tmp, ev_const, fget_cons', fput_nil, fput_cons', fputO_some, fputO_none, elemB_nil, elemB_cons', fkeep_nil, fkeep_cons', args0, slotsL, opdsA, List.cons_append, List.nil_append, List.map_cons, List.map_nil, List.append_nil, Option.toList_some, Option.toList_none, decide_yes, decide_no, b_lss, b_leq, b_gtr, b_geq, b_eql, b_neq, b_add, b_sub, b_mul, b_quo_pos, b_rem_pos, b_seql, b_sneq, wrap64, u_not, u_neg, not_decide', eqB_f, eqB_t, idxNat_in, mm_max, mm_min, convI_int, ext_tuple, lget_zero, lget_succ, loadA_old, aload_old, callP_old, callP_rounds, gcO_some, retE_ret, retE_normal, Value.int.injEq, Value.bool.injEq, Value.string.injEq, true_and, and_true, and_self, retP_ret, retP_normal, retX_some, retW_ret, retW_normal, retWX_some, resOf_nil, resOf_tmp, resOf_cell, tupleOf_one, tupleOf_two, loadO_new, loadB_some, Nat.reduceEqDiff, Nat.reduceLT, Nat.reduceAdd, Nat.reduceBEq, Int.reduceAdd, Int.reduceSub, Int.reduceLT, Int.reduceLE, Int.reduceEq, Int.reduceNeg, ↓reduceIte, if_true, if_false, Bool.false_eq_true, Bool.not_true, Bool.not_false, List.length_cons, List.length_nil, List.length_singleton, reduceCtorEq, Int.toNat_natCast, decide_true, decide_false, Nat.zero_add, Nat.add_zero, Int.add_sub_cancel, eq_self, not_true_eq_false, not_false_eq_true, hget_push_one, hget_push_lt, hget_push_gt, hget_set_ne, storeA_new, storeB_some, one_int, one_bool, one_string, one_slice, one_pointer, lget_map, gc_int, gc_bool, gc_string, gc_nil_int, gc_int_int, gc_string_int, Option.some.injEq, Prod.mk.injEq, hv.len]) | (refine does_goI_dec (fun _ => ?_) (fun _ => ?_)) | (refine does_goG_dec (fun _ => ?_) (fun _ => ?_)) | (refine does_goI (fun _ => ?_) (fun _ => ?_)) | (refine does_goG (fun _ => ?_) (fun _ => ?_)))
  all_goals (simp only [great]; first | (exact (decide_yes (by omega)).symm) | (exact (decide_no (by omega)).symm))
def fits (l : List Int) : Bool := l.all fun x => decide (0 ≤ x ∧ x < 400)
def ckS (l : List Int) : Int := if 400 < l.length then 4 else if fits l then 0 else 8
theorem fits_no {l : List Int} {k : Nat} (hk : k < l.length) (h : l[k]! < 0 ∨ 400 ≤ l[k]!) : fits l = false := by
  rw [getElem!_pos l k hk] at h
  rw [Bool.eq_false_iff]
  intro hf
  have := List.all_eq_true.1 hf _ (List.getElem_mem hk)
  simp at this
  omega
theorem fits_yes {l : List Int} (h : ∀ j, j < l.length → 0 ≤ l[j]! ∧ l[j]! < 400) : fits l = true := by
  refine List.all_eq_true.2 fun x hx => ?_
  obtain ⟨j, hj, rfl⟩ := List.getElem_of_mem hx
  have := h j hj
  rw [getElem!_pos l j hj] at this
  simpa using this
theorem fits_at {l : List Int} (h : fits l = true) {j : Nat} (hj : j < l.length) : 0 ≤ l[j]! ∧ l[j]! < 400 := by
  have := List.all_eq_true.1 h _ (List.getElem_mem hj)
  rw [getElem!_pos l j hj]
  simpa using this
theorem rcheck_p (w : World) (n : Nat) {v : Value} {l : List Int} {h : Heap} {nx p : Nat} (hv : Rd (oldOf w) h vI v l) (hl : l.length ≤ 1000000) : (EN w (n + 1)).pcall 22 [v] ⟨h, nx, p⟩ = some (.int .i64 (ckS l), []) := by
  refine pcall_eq rfl rfl (Nat.le_of_ble_eq_true rfl) ?_
  by_cases h1 : (400 : Int) < l.length
  · repeat' (first | (simp (disch := first | omega | assumption | exact callP_old _ _ _ _ _ | exact one_int _ _ | exact one_bool _ | exact one_string _ | exact one_slice _ _ _ | exact one_pointer _ | exact hget_push_one _ _ _ _ (by omega) | (simp only [List.length_map, List.length_set, List.length_replicate]; omega) | (rw [hget_push_lt _ _ _ _ (by omega)]; first | assumption | exact hget_push_one _ _ _ _ (by omega))) only [runK_nil, runK_seq, runK_seq_exit, runK_seq_ret, runK_block_normal, runK_block_exit, runK_block_ret, go_skip, go_ret, go_exit, go_seq, go_block, go_ops, goO_nil, goO_cons, goV_some, goO_guard, goG_yes, goG_tf, goG_ft, go_cond, goI_true, goI_false, go_draw, goP_nil, goP_cons, goPV_some, goP_guard, goPG_yes, goPG_tf, goPG_ft, does_some, loopP_normal, loopP_exit, loopP_ret, contE_eq, contR_eq, row0, row1, row2, row3, expand_one, replicate_int, replicate_bool, mkSlice_one, idxS_new, idxA_new, len_slice, hget_set_self, Option.map_some, set_int, set_bool, get_set_eq, get_set_ne, op1_some, op2_some, ret1_some, retP_some, retB_some, push_eq, pickX_true, pickX_false, callR_some, callR_none, callX_some, callY_some, slcSX_some, slcX_some, slcAX_some, s_mov, s_pick, s_alloc, s_box, s_build, s_mkRow, s_load, s_nilChk, s_bin, s_eqB, s_eqNil, s_un, s_convI, s_convS, s_b2s, s_mkSlice, s_slcS, s_slc, s_slcA, s_fldA, s_fldV, s_idxS, s_idxA, s_idxStr, s_idxV, s_ext, s_mkFn, s_mkIf, s_len, s_mm, s_cap, s_eqIf, s_callF, s_callV, s_app, s_store, s_copy, q_mov, q_pick, q_alloc, q_box, q_build, q_mkRow, q_load, q_nilChk, q_bin, q_eqB, q_eqNil, q_un, q_convI, q_convS, q_b2s, q_mkSlice, q_slcS, q_slc, q_slcA, q_fldA, q_fldV, q_idxS, q_idxA, q_idxStr, q_idxV, q_ext, q_mkFn, q_mkIf, q_len, q_mm, q_callF, q_cap, q_eqIf, evs_nil, consO_some, evs_cons, evO_none, mapO_some, evO_some, evParts_nil, consP_some, evParts_cons, hiddenHeap_nil, hiddenHeap_true, hiddenHeap_false, hiddenHeap_all, hpush_nil, ev_tmp, ev_const, fget_cons', fput_nil, fput_cons', fputO_some, fputO_none, elemB_nil, elemB_cons', fkeep_nil, fkeep_cons', args0, slotsL, opdsA, List.cons_append, List.nil_append, List.map_cons, List.map_nil, List.append_nil, Option.toList_some, Option.toList_none, decide_yes, decide_no, b_lss, b_leq, b_gtr, b_geq, b_eql, b_neq, b_add, b_sub, b_mul, b_quo_pos, b_rem_pos, b_seql, b_sneq, wrap64, u_not, u_neg, not_decide', eqB_f, eqB_t, idxNat_in, mm_max, mm_min, convI_int, ext_tuple, lget_zero, lget_succ, loadA_old, aload_old, callP_old, callP_rounds, gcO_some, retE_ret, retE_normal, Value.int.injEq, Value.bool.injEq, Value.string.injEq, true_and, and_true, and_self, retP_ret, retP_normal, retX_some, retW_ret, retW_normal, retWX_some, resOf_nil, resOf_tmp, resOf_cell, tupleOf_one, tupleOf_two, loadO_new, loadB_some, Nat.reduceEqDiff, Nat.reduceLT, Nat.reduceAdd, Nat.reduceBEq, Int.reduceAdd, Int.reduceSub, Int.reduceLT, Int.reduceLE, Int.reduceEq, Int.reduceNeg, ↓reduceIte, if_true, if_false, Bool.false_eq_true, Bool.not_true, Bool.not_false, List.length_cons, List.length_nil, List.length_singleton, reduceCtorEq, Int.toNat_natCast, decide_true, decide_false, Nat.zero_add, Nat.add_zero, Int.add_sub_cancel, eq_self, not_true_eq_false, not_false_eq_true, hget_push_one, hget_push_lt, hget_push_gt, hget_set_ne, storeA_new, storeB_some, one_int, one_bool, one_string, one_slice, one_pointer, lget_map, gc_int, gc_bool, gc_string, gc_nil_int, gc_int_int, gc_string_int, Option.some.injEq, Prod.mk.injEq, hv.len]) | (refine does_goI_dec (fun _ => ?_) (fun _ => ?_)) | (refine does_goG_dec (fun _ => ?_) (fun _ => ?_)) | (refine does_goI (fun _ => ?_) (fun _ => ?_)) | (refine does_goG (fun _ => ?_) (fun _ => ?_)))
    simp [ckS]; omega
  · simp (disch := first | omega | assumption | exact callP_old _ _ _ _ _ | exact one_int _ _ | exact one_bool _ | exact one_string _ | exact one_slice _ _ _ | exact one_pointer _ | exact hget_push_one _ _ _ _ (by omega) | (simp only [List.length_map, List.length_set, List.length_replicate]; omega) | (rw [hget_push_lt _ _ _ _ (by omega)]; first | assumption | exact hget_push_one _ _ _ _ (by omega))) only [runK_nil, runK_seq, runK_seq_exit, runK_seq_ret, runK_block_normal, runK_block_exit, runK_block_ret, go_skip, go_ret, go_exit, go_seq, go_block, go_ops, goO_nil, goO_cons, goV_some, goO_guard, goG_yes, goG_tf, goG_ft, go_cond, goI_true, goI_false, go_draw, goP_nil, goP_cons, goPV_some, goP_guard, goPG_yes, goPG_tf, goPG_ft, does_some, loopP_normal, loopP_exit, loopP_ret, contE_eq, contR_eq, row0, row1, row2, row3, expand_one, replicate_int, replicate_bool, mkSlice_one, idxS_new, idxA_new, len_slice, hget_set_self, Option.map_some, set_int, set_bool, get_set_eq, get_set_ne, op1_some, op2_some, ret1_some, retP_some, retB_some, push_eq, pickX_true, pickX_false, callR_some, callR_none, callX_some, callY_some, slcSX_some, slcX_some, slcAX_some, s_mov, s_pick, s_alloc, s_box, s_build, s_mkRow, s_load, s_nilChk, s_bin, s_eqB, s_eqNil, s_un, s_convI, s_convS, s_b2s, s_mkSlice, s_slcS, s_slc, s_slcA, s_fldA, s_fldV, s_idxS, s_idxA, s_idxStr, s_idxV, s_ext, s_mkFn, s_mkIf, s_len, s_mm, s_cap, s_eqIf, s_callF, s_callV, s_app, s_store, s_copy, q_mov, q_pick, q_alloc, q_box, q_build, q_mkRow, q_load, q_nilChk, q_bin, q_eqB, q_eqNil, q_un, q_convI, q_convS, q_b2s, q_mkSlice, q_slcS, q_slc, q_slcA, q_fldA, q_fldV, q_idxS, q_idxA, q_idxStr, q_idxV, q_ext, q_mkFn, q_mkIf, q_len, q_mm, q_callF, q_cap, q_eqIf, evs_nil, consO_some, evs_cons, evO_none, mapO_some, evO_some, evParts_nil, consP_some, evParts_cons, hiddenHeap_nil, hiddenHeap_true, hiddenHeap_false, hiddenHeap_all, hpush_nil, ev_tmp, ev_const, fget_cons', fput_nil, fput_cons', fputO_some, fputO_none, elemB_nil, elemB_cons', fkeep_nil, fkeep_cons', args0, slotsL, opdsA, List.cons_append, List.nil_append, List.map_cons, List.map_nil, List.append_nil, Option.toList_some, Option.toList_none, decide_yes, decide_no, b_lss, b_leq, b_gtr, b_geq, b_eql, b_neq, b_add, b_sub, b_mul, b_quo_pos, b_rem_pos, b_seql, b_sneq, wrap64, u_not, u_neg, not_decide', eqB_f, eqB_t, idxNat_in, mm_max, mm_min, convI_int, ext_tuple, lget_zero, lget_succ, loadA_old, aload_old, callP_old, callP_rounds, gcO_some, retE_ret, retE_normal, Value.int.injEq, Value.bool.injEq, Value.string.injEq, true_and, and_true, and_self, retP_ret, retP_normal, retX_some, retW_ret, retW_normal, retWX_some, resOf_nil, resOf_tmp, resOf_cell, tupleOf_one, tupleOf_two, loadO_new, loadB_some, Nat.reduceEqDiff, Nat.reduceLT, Nat.reduceAdd, Nat.reduceBEq, Int.reduceAdd, Int.reduceSub, Int.reduceLT, Int.reduceLE, Int.reduceEq, Int.reduceNeg, ↓reduceIte, if_true, if_false, Bool.false_eq_true, Bool.not_true, Bool.not_false, List.length_cons, List.length_nil, List.length_singleton, reduceCtorEq, Int.toNat_natCast, decide_true, decide_false, Nat.zero_add, Nat.add_zero, Int.add_sub_cancel, eq_self, not_true_eq_false, not_false_eq_true, hget_push_one, hget_push_lt, hget_push_gt, hget_set_ne, storeA_new, storeB_some, one_int, one_bool, one_string, one_slice, one_pointer, lget_map, gc_int, gc_bool, gc_string, gc_nil_int, gc_int_int, gc_string_int, Option.some.injEq, Prod.mk.injEq, hv.len]
    refine does_while (fun q fr t => ∃ k : Nat, q = l.length - k ∧ k ≤ l.length ∧ fr = [(0, v), (3, .int .i64 k)] ∧ t = ⟨h, nx, nx⟩ ∧ ∀ j, j < k → 0 ≤ l[j]! ∧ l[j]! < 400) (m := l.length) ?_ ?_ ?_
    · exact ⟨0, by omega, by omega, rfl, rfl, by omega⟩
    · simp (disch := first | omega | assumption | exact callP_old _ _ _ _ _ | exact one_int _ _ | exact one_bool _ | exact one_string _ | exact one_slice _ _ _ | exact one_pointer _ | exact hget_push_one _ _ _ _ (by omega) | (simp only [List.length_map, List.length_set, List.length_replicate]; omega) | (rw [hget_push_lt _ _ _ _ (by omega)]; first | assumption | exact hget_push_one _ _ _ _ (by omega))) only [runK_nil, runK_seq, runK_seq_exit, runK_seq_ret, runK_block_normal, runK_block_exit, runK_block_ret, go_skip, go_ret, go_exit, go_seq, go_block, go_ops, goO_nil, goO_cons, goV_some, goO_guard, goG_yes, goG_tf, goG_ft, go_cond, goI_true, goI_false, go_draw, goP_nil, goP_cons, goPV_some, goP_guard, goPG_yes, goPG_tf, goPG_ft, does_some, loopP_normal, loopP_exit, loopP_ret, contE_eq, contR_eq, row0, row1, row2, row3, expand_one, replicate_int, replicate_bool, mkSlice_one, idxS_new, idxA_new, len_slice, hget_set_self, Option.map_some, set_int, set_bool, get_set_eq, get_set_ne, op1_some, op2_some, ret1_some, retP_some, retB_some, push_eq, pickX_true, pickX_false, callR_some, callR_none, callX_some, callY_some, slcSX_some, slcX_some, slcAX_some, s_mov, s_pick, s_alloc, s_box, s_build, s_mkRow, s_load, s_nilChk, s_bin, s_eqB, s_eqNil, s_un, s_convI, s_convS, s_b2s, s_mkSlice, s_slcS, s_slc, s_slcA, s_fldA, s_fldV, s_idxS, s_idxA, s_idxStr, s_idxV, s_ext, s_mkFn, s_mkIf, s_len, s_mm, s_cap, s_eqIf, s_callF, s_callV, s_app, s_store, s_copy, q_mov, q_pick, q_alloc, q_box, q_build, q_mkRow, q_load, q_nilChk, q_bin, q_eqB, q_eqNil, q_un, q_convI, q_convS, q_b2s, q_mkSlice, q_slcS, q_slc, q_slcA, q_fldA, q_fldV, q_idxS, q_idxA, q_idxStr, q_idxV, q_ext, q_mkFn, q_mkIf, q_len, q_mm, q_callF, q_cap, q_eqIf, evs_nil, consO_some, evs_cons, evO_none, mapO_some, evO_some, evParts_nil, consP_some, evParts_cons, hiddenHeap_nil, hiddenHeap_true, hiddenHeap_false, hiddenHeap_all, hpush_nil, ev_tmp, ev_const, fget_cons', fput_nil, fput_cons', fputO_some, fputO_none, elemB_nil, elemB_cons', fkeep_nil, fkeep_cons', args0, slotsL, opdsA, List.cons_append, List.nil_append, List.map_cons, List.map_nil, List.append_nil, Option.toList_some, Option.toList_none, decide_yes, decide_no, b_lss, b_leq, b_gtr, b_geq, b_eql, b_neq, b_add, b_sub, b_mul, b_quo_pos, b_rem_pos, b_seql, b_sneq, wrap64, u_not, u_neg, not_decide', eqB_f, eqB_t, idxNat_in, mm_max, mm_min, convI_int, ext_tuple, lget_zero, lget_succ, loadA_old, aload_old, callP_old, callP_rounds, gcO_some, retE_ret, retE_normal, Value.int.injEq, Value.bool.injEq, Value.string.injEq, true_and, and_true, and_self, retP_ret, retP_normal, retX_some, retW_ret, retW_normal, retWX_some, resOf_nil, resOf_tmp, resOf_cell, tupleOf_one, tupleOf_two, loadO_new, loadB_some, Nat.reduceEqDiff, Nat.reduceLT, Nat.reduceAdd, Nat.reduceBEq, Int.reduceAdd, Int.reduceSub, Int.reduceLT, Int.reduceLE, Int.reduceEq, Int.reduceNeg, ↓reduceIte, if_true, if_false, Bool.false_eq_true, Bool.not_true, Bool.not_false, List.length_cons, List.length_nil, List.length_singleton, reduceCtorEq, Int.toNat_natCast, decide_true, decide_false, Nat.zero_add, Nat.add_zero, Int.add_sub_cancel, eq_self, not_true_eq_false, not_false_eq_true, hget_push_one, hget_push_lt, hget_push_gt, hget_set_ne, storeA_new, storeB_some, one_int, one_bool, one_string, one_slice, one_pointer, lget_map, gc_int, gc_bool, gc_string, gc_nil_int, gc_int_int, gc_string_int, Option.some.injEq, Prod.mk.injEq]
      unfold many; omega
    · rintro q fr t ⟨k, rfl, hk, rfl, rfl, hj⟩
      repeat' (first | (simp (disch := first | omega | assumption | exact callP_old _ _ _ _ _ | exact one_int _ _ | exact one_bool _ | exact one_string _ | exact one_slice _ _ _ | exact one_pointer _ | exact hget_push_one _ _ _ _ (by omega) | (simp only [List.length_map, List.length_set, List.length_replicate]; omega) | (rw [hget_push_lt _ _ _ _ (by omega)]; first | assumption | exact hget_push_one _ _ _ _ (by omega))) only [runK_nil, runK_seq, runK_seq_exit, runK_seq_ret, runK_block_normal, runK_block_exit, runK_block_ret, go_skip, go_ret, go_exit, go_seq, go_block, go_ops, goO_nil, goO_cons, goV_some, goO_guard, goG_yes, goG_tf, goG_ft, go_cond, goI_true, goI_false, go_draw, goP_nil, goP_cons, goPV_some, goP_guard, goPG_yes, goPG_tf, goPG_ft, does_some, loopP_normal, loopP_exit, loopP_ret, contE_eq, contR_eq, row0, row1, row2, row3, expand_one, replicate_int, replicate_bool, mkSlice_one, idxS_new, idxA_new, len_slice, hget_set_self, Option.map_some, set_int, set_bool, get_set_eq, get_set_ne, op1_some, op2_some, ret1_some, retP_some, retB_some, push_eq, pickX_true, pickX_false, callR_some, callR_none, callX_some, callY_some, slcSX_some, slcX_some, slcAX_some, s_mov, s_pick, s_alloc, s_box, s_build, s_mkRow, s_load, s_nilChk, s_bin, s_eqB, s_eqNil, s_un, s_convI, s_convS, s_b2s, s_mkSlice, s_slcS, s_slc, s_slcA, s_fldA, s_fldV, s_idxS, s_idxA, s_idxStr, s_idxV, s_ext, s_mkFn, s_mkIf, s_len, s_mm, s_cap, s_eqIf, s_callF, s_callV, s_app, s_store, s_copy, q_mov, q_pick, q_alloc, q_box, q_build, q_mkRow, q_load, q_nilChk, q_bin, q_eqB, q_eqNil, q_un, q_convI, q_convS, q_b2s, q_mkSlice, q_slcS, q_slc, q_slcA, q_fldA, q_fldV, q_idxS, q_idxA, q_idxStr, q_idxV, q_ext, q_mkFn, q_mkIf, q_len, q_mm, q_callF, q_cap, q_eqIf, evs_nil, consO_some, evs_cons, evO_none, mapO_some, evO_some, evParts_nil, consP_some, evParts_cons, hiddenHeap_nil, hiddenHeap_true, hiddenHeap_false, hiddenHeap_all, hpush_nil, ev_tmp, ev_const, fget_cons', fput_nil, fput_cons', fputO_some, fputO_none, elemB_nil, elemB_cons', fkeep_nil, fkeep_cons', args0, slotsL, opdsA, List.cons_append, List.nil_append, List.map_cons, List.map_nil, List.append_nil, Option.toList_some, Option.toList_none, decide_yes, decide_no, b_lss, b_leq, b_gtr, b_geq, b_eql, b_neq, b_add, b_sub, b_mul, b_quo_pos, b_rem_pos, b_seql, b_sneq, wrap64, u_not, u_neg, not_decide', eqB_f, eqB_t, idxNat_in, mm_max, mm_min, convI_int, ext_tuple, lget_zero, lget_succ, loadA_old, aload_old, callP_old, callP_rounds, gcO_some, retE_ret, retE_normal, Value.int.injEq, Value.bool.injEq, Value.string.injEq, true_and, and_true, and_self, retP_ret, retP_normal, retX_some, retW_ret, retW_normal, retWX_some, resOf_nil, resOf_tmp, resOf_cell, tupleOf_one, tupleOf_two, loadO_new, loadB_some, Nat.reduceEqDiff, Nat.reduceLT, Nat.reduceAdd, Nat.reduceBEq, Int.reduceAdd, Int.reduceSub, Int.reduceLT, Int.reduceLE, Int.reduceEq, Int.reduceNeg, ↓reduceIte, if_true, if_false, Bool.false_eq_true, Bool.not_true, Bool.not_false, List.length_cons, List.length_nil, List.length_singleton, reduceCtorEq, Int.toNat_natCast, decide_true, decide_false, Nat.zero_add, Nat.add_zero, Int.add_sub_cancel, eq_self, not_true_eq_false, not_false_eq_true, hget_push_one, hget_push_lt, hget_push_gt, hget_set_ne, storeA_new, storeB_some, one_int, one_bool, one_string, one_slice, one_pointer, lget_map, gc_int, gc_bool, gc_string, gc_nil_int, gc_int_int, gc_string_int, Option.some.injEq, Prod.mk.injEq, c22l0, hv.len, hv.idx, hv.load, vI]) | (refine does_goI_dec (fun _ => ?_) (fun _ => ?_)) | (refine does_goG_dec (fun _ => ?_) (fun _ => ?_)) | (refine does_goI (fun _ => ?_) (fun _ => ?_)) | (refine does_goG (fun _ => ?_) (fun _ => ?_)))
      · have := fits_no (l := l) (k := k) (by omega) (Or.inl (by assumption))
        simp [ckS, this]; omega
      · have := fits_no (l := l) (k := k) (by omega) (Or.inr (by assumption))
        simp [ckS, this]; omega
      · refine ⟨_, ?_, k + 1, rfl, by omega, by simp, fun j hj' => ?_⟩
        · omega
        · rcases Nat.lt_succ_iff_lt_or_eq.1 hj' with h' | rfl
          · exact hj j h'
          · omega
      · have := fits_yes (l := l) (fun j h => hj j (by omega))
        simp [ckS, this]; omega
def ck2 (a b : List Int) : Int := if ckS a = 0 then ckS b else ckS a
theorem both_p (w : World) (n : Nat) {u v : Value} {l m : List Int} {h : Heap} {nx p : Nat} (hu : Rd (oldOf w) h vI u l) (hv : Rd (oldOf w) h vI v m) (hl : l.length ≤ 1000000) (hm : m.length ≤ 1000000) :
    (EN w (n + 2)).pcall 25 [u, v] ⟨h, nx, p⟩ = some (.int .i64 (ck2 l m), []) := by
  refine pcall_eq rfl rfl (Nat.le_of_ble_eq_true rfl) ?_
  by_cases hc : ckS l = 0
  · repeat' (first | (simp (disch := first | omega | assumption | exact callP_old _ _ _ _ _ | exact one_int _ _ | exact one_bool _ | exact one_string _ | exact one_slice _ _ _ | exact one_pointer _ | exact hget_push_one _ _ _ _ (by omega) | (simp only [List.length_map, List.length_set, List.length_replicate]; omega) | (rw [hget_push_lt _ _ _ _ (by omega)]; first | assumption | exact hget_push_one _ _ _ _ (by omega))) only [runK_nil, runK_seq, runK_seq_exit, runK_seq_ret, runK_block_normal, runK_block_exit, runK_block_ret, go_skip, go_ret, go_exit, go_seq, go_block, go_ops, goO_nil, goO_cons, goV_some, goO_guard, goG_yes, goG_tf, goG_ft, go_cond, goI_true, goI_false, go_draw, goP_nil, goP_cons, goPV_some, goP_guard, goPG_yes, goPG_tf, goPG_ft, does_some, loopP_normal, loopP_exit, loopP_ret, contE_eq, contR_eq, row0, row1, row2, row3, expand_one, replicate_int, replicate_bool, mkSlice_one, idxS_new, idxA_new, len_slice, hget_set_self, Option.map_some, set_int, set_bool, get_set_eq, get_set_ne, op1_some, op2_some, ret1_some, retP_some, retB_some, push_eq, pickX_true, pickX_false, callR_some, callR_none, callX_some, callY_some, slcSX_some, slcX_some, slcAX_some, s_mov, s_pick, s_alloc, s_box, s_build, s_mkRow, s_load, s_nilChk, s_bin, s_eqB, s_eqNil, s_un, s_convI, s_convS, s_b2s, s_mkSlice, s_slcS, s_slc, s_slcA, s_fldA, s_fldV, s_idxS, s_idxA, s_idxStr, s_idxV, s_ext, s_mkFn, s_mkIf, s_len, s_mm, s_cap, s_eqIf, s_callF, s_callV, s_app, s_store, s_copy, q_mov, q_pick, q_alloc, q_box, q_build, q_mkRow, q_load, q_nilChk, q_bin, q_eqB, q_eqNil, q_un, q_convI, q_convS, q_b2s, q_mkSlice, q_slcS, q_slc, q_slcA, q_fldA, q_fldV, q_idxS, q_idxA, q_idxStr, q_idxV, q_ext, q_mkFn, q_mkIf, q_len, q_mm, q_callF, q_cap, q_eqIf, evs_nil, consO_some, evs_cons, evO_none, mapO_some, evO_some, evParts_nil, consP_some, evParts_cons, hiddenHeap_nil, hiddenHeap_true, hiddenHeap_false, hiddenHeap_all, hpush_nil, ev_tmp, ev_const, fget_cons', fput_nil, fput_cons', fputO_some, fputO_none, elemB_nil, elemB_cons', fkeep_nil, fkeep_cons', args0, slotsL, opdsA, List.cons_append, List.nil_append, List.map_cons, List.map_nil, List.append_nil, Option.toList_some, Option.toList_none, decide_yes, decide_no, b_lss, b_leq, b_gtr, b_geq, b_eql, b_neq, b_add, b_sub, b_mul, b_quo_pos, b_rem_pos, b_seql, b_sneq, wrap64, u_not, u_neg, not_decide', eqB_f, eqB_t, idxNat_in, mm_max, mm_min, convI_int, ext_tuple, lget_zero, lget_succ, loadA_old, aload_old, callP_old, callP_rounds, gcO_some, retE_ret, retE_normal, Value.int.injEq, Value.bool.injEq, Value.string.injEq, true_and, and_true, and_self, retP_ret, retP_normal, retX_some, retW_ret, retW_normal, retWX_some, resOf_nil, resOf_tmp, resOf_cell, tupleOf_one, tupleOf_two, loadO_new, loadB_some, Nat.reduceEqDiff, Nat.reduceLT, Nat.reduceAdd, Nat.reduceBEq, Int.reduceAdd, Int.reduceSub, Int.reduceLT, Int.reduceLE, Int.reduceEq, Int.reduceNeg, ↓reduceIte, if_true, if_false, Bool.false_eq_true, Bool.not_true, Bool.not_false, List.length_cons, List.length_nil, List.length_singleton, reduceCtorEq, Int.toNat_natCast, decide_true, decide_false, Nat.zero_add, Nat.add_zero, Int.add_sub_cancel, eq_self, not_true_eq_false, not_false_eq_true, hget_push_one, hget_push_lt, hget_push_gt, hget_set_ne, storeA_new, storeB_some, one_int, one_bool, one_string, one_slice, one_pointer, lget_map, gc_int, gc_bool, gc_string, gc_nil_int, gc_int_int, gc_string_int, Option.some.injEq, Prod.mk.injEq, rcheck_p w _ hu hl, rcheck_p w _ hv hm]) | (refine does_goI_dec (fun _ => ?_) (fun _ => ?_)) | (refine does_goG_dec (fun _ => ?_) (fun _ => ?_)) | (refine does_goI (fun _ => ?_) (fun _ => ?_)) | (refine does_goG (fun _ => ?_) (fun _ => ?_)))
    simp [hc, ck2]
  · repeat' (first | (simp (disch := first | omega | assumption | exact callP_old _ _ _ _ _ | exact one_int _ _ | exact one_bool _ | exact one_string _ | exact one_slice _ _ _ | exact one_pointer _ | exact hget_push_one _ _ _ _ (by omega) | (simp only [List.length_map, List.length_set, List.length_replicate]; omega) | (rw [hget_push_lt _ _ _ _ (by omega)]; first | assumption | exact hget_push_one _ _ _ _ (by omega))) only [runK_nil, runK_seq, runK_seq_exit, runK_seq_ret, runK_block_normal, runK_block_exit, runK_block_ret, go_skip, go_ret, go_exit, go_seq, go_block, go_ops, goO_nil, goO_cons, goV_some, goO_guard, goG_yes, goG_tf, goG_ft, go_cond, goI_true, goI_false, go_draw, goP_nil, goP_cons, goPV_some, goP_guard, goPG_yes, goPG_tf, goPG_ft, does_some, loopP_normal, loopP_exit, loopP_ret, contE_eq, contR_eq, row0, row1, row2, row3, expand_one, replicate_int, replicate_bool, mkSlice_one, idxS_new, idxA_new, len_slice, hget_set_self, Option.map_some, set_int, set_bool, get_set_eq, get_set_ne, op1_some, op2_some, ret1_some, retP_some, retB_some, push_eq, pickX_true, pickX_false, callR_some, callR_none, callX_some, callY_some, slcSX_some, slcX_some, slcAX_some, s_mov, s_pick, s_alloc, s_box, s_build, s_mkRow, s_load, s_nilChk, s_bin, s_eqB, s_eqNil, s_un, s_convI, s_convS, s_b2s, s_mkSlice, s_slcS, s_slc, s_slcA, s_fldA, s_fldV, s_idxS, s_idxA, s_idxStr, s_idxV, s_ext, s_mkFn, s_mkIf, s_len, s_mm, s_cap, s_eqIf, s_callF, s_callV, s_app, s_store, s_copy, q_mov, q_pick, q_alloc, q_box, q_build, q_mkRow, q_load, q_nilChk, q_bin, q_eqB, q_eqNil, q_un, q_convI, q_convS, q_b2s, q_mkSlice, q_slcS, q_slc, q_slcA, q_fldA, q_fldV, q_idxS, q_idxA, q_idxStr, q_idxV, q_ext, q_mkFn, q_mkIf, q_len, q_mm, q_callF, q_cap, q_eqIf, evs_nil, consO_some, evs_cons, evO_none, mapO_some, evO_some, evParts_nil, consP_some, evParts_cons, hiddenHeap_nil, hiddenHeap_true, hiddenHeap_false, hiddenHeap_all, hpush_nil, ev_tmp, ev_const, fget_cons', fput_nil, fput_cons', fputO_some, fputO_none, elemB_nil, elemB_cons', fkeep_nil, fkeep_cons', args0, slotsL, opdsA, List.cons_append, List.nil_append, List.map_cons, List.map_nil, List.append_nil, Option.toList_some, Option.toList_none, decide_yes, decide_no, b_lss, b_leq, b_gtr, b_geq, b_eql, b_neq, b_add, b_sub, b_mul, b_quo_pos, b_rem_pos, b_seql, b_sneq, wrap64, u_not, u_neg, not_decide', eqB_f, eqB_t, idxNat_in, mm_max, mm_min, convI_int, ext_tuple, lget_zero, lget_succ, loadA_old, aload_old, callP_old, callP_rounds, gcO_some, retE_ret, retE_normal, Value.int.injEq, Value.bool.injEq, Value.string.injEq, true_and, and_true, and_self, retP_ret, retP_normal, retX_some, retW_ret, retW_normal, retWX_some, resOf_nil, resOf_tmp, resOf_cell, tupleOf_one, tupleOf_two, loadO_new, loadB_some, Nat.reduceEqDiff, Nat.reduceLT, Nat.reduceAdd, Nat.reduceBEq, Int.reduceAdd, Int.reduceSub, Int.reduceLT, Int.reduceLE, Int.reduceEq, Int.reduceNeg, ↓reduceIte, if_true, if_false, Bool.false_eq_true, Bool.not_true, Bool.not_false, List.length_cons, List.length_nil, List.length_singleton, reduceCtorEq, Int.toNat_natCast, decide_true, decide_false, Nat.zero_add, Nat.add_zero, Int.add_sub_cancel, eq_self, not_true_eq_false, not_false_eq_true, hget_push_one, hget_push_lt, hget_push_gt, hget_set_ne, storeA_new, storeB_some, one_int, one_bool, one_string, one_slice, one_pointer, lget_map, gc_int, gc_bool, gc_string, gc_nil_int, gc_int_int, gc_string_int, Option.some.injEq, Prod.mk.injEq, rcheck_p w _ hu hl, rcheck_p w _ hv hm]) | (refine does_goI_dec (fun _ => ?_) (fun _ => ?_)) | (refine does_goG_dec (fun _ => ?_) (fun _ => ?_)) | (refine does_goI (fun _ => ?_) (fun _ => ?_)) | (refine does_goG (fun _ => ?_) (fun _ => ?_)))
    simp [hc, ck2]
def chkAll : List (List Int) → Int
  | [] => 0
  | l :: r => if ckS l = 0 then chkAll r else ckS l
theorem drop_at {α : Type} [Inhabited α] (l : List α) (k : Nat) (h : k < l.length) : l.drop k = l[k]! :: l.drop (k + 1) := by
  rw [getElem!_pos l k h, List.drop_eq_getElem_cons h]
theorem check_p (w : World) (n : Nat) {V : Value} {vs : List Value} {ls : List (List Int)} {h : Heap} {nx p : Nat} (hV : Rd (oldOf w) h (fun v : Value => v) V vs) (hlen : vs.length = ls.length) (hm : ls.length ≤ 1000000)
    (hv : ∀ k, k < ls.length → Rd (oldOf w) h vI vs[k]! ls[k]! ∧ ls[k]!.length ≤ 1000000) : (EN w (n + 1)).pcall 21 [V] ⟨h, nx, p⟩ = some (.int .i64 (chkAll ls), []) := by
  refine pcall_eq rfl rfl (Nat.le_of_ble_eq_true rfl) ?_
  simp (disch := first | omega | assumption | exact callP_old _ _ _ _ _ | exact one_int _ _ | exact one_bool _ | exact one_string _ | exact one_slice _ _ _ | exact one_pointer _ | exact hget_push_one _ _ _ _ (by omega) | (simp only [List.length_map, List.length_set, List.length_replicate]; omega) | (rw [hget_push_lt _ _ _ _ (by omega)]; first | assumption | exact hget_push_one _ _ _ _ (by omega))) only [runK_nil, runK_seq, runK_seq_exit, runK_seq_ret, runK_block_normal, runK_block_exit, runK_block_ret, go_skip, go_ret, go_exit, go_seq, go_block, go_ops, goO_nil, goO_cons, goV_some, goO_guard, goG_yes, goG_tf, goG_ft, go_cond, goI_true, goI_false, go_draw, goP_nil, goP_cons, goPV_some, goP_guard, goPG_yes, goPG_tf, goPG_ft, does_some, loopP_normal, loopP_exit, loopP_ret, contE_eq, contR_eq, row0, row1, row2, row3, expand_one, replicate_int, replicate_bool, mkSlice_one, idxS_new, idxA_new, len_slice, hget_set_self, Option.map_some, set_int, set_bool, get_set_eq, get_set_ne, op1_some, op2_some, ret1_some, retP_some, retB_some, push_eq, pickX_true, pickX_false, callR_some, callR_none, callX_some, callY_some, slcSX_some, slcX_some, slcAX_some, s_mov, s_pick, s_alloc, s_box, s_build, s_mkRow, s_load, s_nilChk, s_bin, s_eqB, s_eqNil, s_un, s_convI, s_convS, s_b2s, s_mkSlice, s_slcS, s_slc, s_slcA, s_fldA, s_fldV, s_idxS, s_idxA, s_idxStr, s_idxV, s_ext, s_mkFn, s_mkIf, s_len, s_mm, s_cap, s_eqIf, s_callF, s_callV, s_app, s_store, s_copy, q_mov, q_pick, q_alloc, q_box, q_build, q_mkRow, q_load, q_nilChk, q_bin, q_eqB, q_eqNil, q_un, q_convI, q_convS, q_b2s, q_mkSlice, q_slcS, q_slc, q_slcA, q_fldA, q_fldV, q_idxS, q_idxA, q_idxStr, q_idxV, q_ext, q_mkFn, q_mkIf, q_len, q_mm, q_callF, q_cap, q_eqIf, evs_nil, consO_some, evs_cons, evO_none, mapO_some, evO_some, evParts_nil, consP_some, evParts_cons, hiddenHeap_nil, hiddenHeap_true, hiddenHeap_false, hiddenHeap_all, hpush_nil, ev_tmp, ev_const, fget_cons', fput_nil, fput_cons', fputO_some, fputO_none, elemB_nil, elemB_cons', fkeep_nil, fkeep_cons', args0, slotsL, opdsA, List.cons_append, List.nil_append, List.map_cons, List.map_nil, List.append_nil, Option.toList_some, Option.toList_none, decide_yes, decide_no, b_lss, b_leq, b_gtr, b_geq, b_eql, b_neq, b_add, b_sub, b_mul, b_quo_pos, b_rem_pos, b_seql, b_sneq, wrap64, u_not, u_neg, not_decide', eqB_f, eqB_t, idxNat_in, mm_max, mm_min, convI_int, ext_tuple, lget_zero, lget_succ, loadA_old, aload_old, callP_old, callP_rounds, gcO_some, retE_ret, retE_normal, Value.int.injEq, Value.bool.injEq, Value.string.injEq, true_and, and_true, and_self, retP_ret, retP_normal, retX_some, retW_ret, retW_normal, retWX_some, resOf_nil, resOf_tmp, resOf_cell, tupleOf_one, tupleOf_two, loadO_new, loadB_some, Nat.reduceEqDiff, Nat.reduceLT, Nat.reduceAdd, Nat.reduceBEq, Int.reduceAdd, Int.reduceSub, Int.reduceLT, Int.reduceLE, Int.reduceEq, Int.reduceNeg, ↓reduceIte, if_true, if_false, Bool.false_eq_true, Bool.not_true, Bool.not_false, List.length_cons, List.length_nil, List.length_singleton, reduceCtorEq, Int.toNat_natCast, decide_true, decide_false, Nat.zero_add, Nat.add_zero, Int.add_sub_cancel, eq_self, not_true_eq_false, not_false_eq_true, hget_push_one, hget_push_lt, hget_push_gt, hget_set_ne, storeA_new, storeB_some, one_int, one_bool, one_string, one_slice, one_pointer, lget_map, gc_int, gc_bool, gc_string, gc_nil_int, gc_int_int, gc_string_int, Option.some.injEq, Prod.mk.injEq, hV.len]
  refine does_while (fun q fr t => ∃ k : Nat, q = ls.length - k ∧ k ≤ ls.length ∧ fr = [(7, V), (8, .int .i64 ls.length), (9, .int .i64 k)] ∧ t = ⟨h, nx, nx⟩ ∧ chkAll ls = chkAll (ls.drop k)) (m := ls.length) ?_ ?_ ?_
  · exact ⟨0, by omega, by omega, by simp [hlen], rfl, rfl⟩
  · simp (disch := first | omega | assumption | exact callP_old _ _ _ _ _ | exact one_int _ _ | exact one_bool _ | exact one_string _ | exact one_slice _ _ _ | exact one_pointer _ | exact hget_push_one _ _ _ _ (by omega) | (simp only [List.length_map, List.length_set, List.length_replicate]; omega) | (rw [hget_push_lt _ _ _ _ (by omega)]; first | assumption | exact hget_push_one _ _ _ _ (by omega))) only [runK_nil, runK_seq, runK_seq_exit, runK_seq_ret, runK_block_normal, runK_block_exit, runK_block_ret, go_skip, go_ret, go_exit, go_seq, go_block, go_ops, goO_nil, goO_cons, goV_some, goO_guard, goG_yes, goG_tf, goG_ft, go_cond, goI_true, goI_false, go_draw, goP_nil, goP_cons, goPV_some, goP_guard, goPG_yes, goPG_tf, goPG_ft, does_some, loopP_normal, loopP_exit, loopP_ret, contE_eq, contR_eq, row0, row1, row2, row3, expand_one, replicate_int, replicate_bool, mkSlice_one, idxS_new, idxA_new, len_slice, hget_set_self, Option.map_some, set_int, set_bool, get_set_eq, get_set_ne, op1_some, op2_some, ret1_some, retP_some, retB_some, push_eq, pickX_true, pickX_false, callR_some, callR_none, callX_some, callY_some, slcSX_some, slcX_some, slcAX_some, s_mov, s_pick, s_alloc, s_box, s_build, s_mkRow, s_load, s_nilChk, s_bin, s_eqB, s_eqNil, s_un, s_convI, s_convS, s_b2s, s_mkSlice, s_slcS, s_slc, s_slcA, s_fldA, s_fldV, s_idxS, s_idxA, s_idxStr, s_idxV, s_ext, s_mkFn, s_mkIf, s_len, s_mm, s_cap, s_eqIf, s_callF, s_callV, s_app, s_store, s_copy, q_mov, q_pick, q_alloc, q_box, q_build, q_mkRow, q_load, q_nilChk, q_bin, q_eqB, q_eqNil, q_un, q_convI, q_convS, q_b2s, q_mkSlice, q_slcS, q_slc, q_slcA, q_fldA, q_fldV, q_idxS, q_idxA, q_idxStr, q_idxV, q_ext, q_mkFn, q_mkIf, q_len, q_mm, q_callF, q_cap, q_eqIf, evs_nil, consO_some, evs_cons, evO_none, mapO_some, evO_some, evParts_nil, consP_some, evParts_cons, hiddenHeap_nil, hiddenHeap_true, hiddenHeap_false, hiddenHeap_all, hpush_nil, ev_tmp, ev_const, fget_cons', fput_nil, fput_cons', fputO_some, fputO_none, elemB_nil, elemB_cons', fkeep_nil, fkeep_cons', args0, slotsL, opdsA, List.cons_append, List.nil_append, List.map_cons, List.map_nil, List.append_nil, Option.toList_some, Option.toList_none, decide_yes, decide_no, b_lss, b_leq, b_gtr, b_geq, b_eql, b_neq, b_add, b_sub, b_mul, b_quo_pos, b_rem_pos, b_seql, b_sneq, wrap64, u_not, u_neg, not_decide', eqB_f, eqB_t, idxNat_in, mm_max, mm_min, convI_int, ext_tuple, lget_zero, lget_succ, loadA_old, aload_old, callP_old, callP_rounds, gcO_some, retE_ret, retE_normal, Value.int.injEq, Value.bool.injEq, Value.string.injEq, true_and, and_true, and_self, retP_ret, retP_normal, retX_some, retW_ret, retW_normal, retWX_some, resOf_nil, resOf_tmp, resOf_cell, tupleOf_one, tupleOf_two, loadO_new, loadB_some, Nat.reduceEqDiff, Nat.reduceLT, Nat.reduceAdd, Nat.reduceBEq, Int.reduceAdd, Int.reduceSub, Int.reduceLT, Int.reduceLE, Int.reduceEq, Int.reduceNeg, ↓reduceIte, if_true, if_false, Bool.false_eq_true, Bool.not_true, Bool.not_false, List.length_cons, List.length_nil, List.length_singleton, reduceCtorEq, Int.toNat_natCast, decide_true, decide_false, Nat.zero_add, Nat.add_zero, Int.add_sub_cancel, eq_self, not_true_eq_false, not_false_eq_true, hget_push_one, hget_push_lt, hget_push_gt, hget_set_ne, storeA_new, storeB_some, one_int, one_bool, one_string, one_slice, one_pointer, lget_map, gc_int, gc_bool, gc_string, gc_nil_int, gc_int_int, gc_string_int, Option.some.injEq, Prod.mk.injEq]
    unfold many; omega
  · rintro q fr t ⟨k, rfl, hk, rfl, rfl, hj⟩
    by_cases hlt : k < ls.length
    · obtain ⟨hr, hrl⟩ := hv k hlt
      rw [drop_at ls k hlt] at hj
      generalize ls[k]! = lk at *
      generalize hvk : vs[k]! = vk at *
      by_cases h4 : (400 : Int) < lk.length
      · repeat' (first | (simp (disch := first | omega | assumption | exact callP_old _ _ _ _ _ | exact one_int _ _ | exact one_bool _ | exact one_string _ | exact one_slice _ _ _ | exact one_pointer _ | exact hget_push_one _ _ _ _ (by omega) | (simp only [List.length_map, List.length_set, List.length_replicate]; omega) | (rw [hget_push_lt _ _ _ _ (by omega)]; first | assumption | exact hget_push_one _ _ _ _ (by omega))) only [runK_nil, runK_seq, runK_seq_exit, runK_seq_ret, runK_block_normal, runK_block_exit, runK_block_ret, go_skip, go_ret, go_exit, go_seq, go_block, go_ops, goO_nil, goO_cons, goV_some, goO_guard, goG_yes, goG_tf, goG_ft, go_cond, goI_true, goI_false, go_draw, goP_nil, goP_cons, goPV_some, goP_guard, goPG_yes, goPG_tf, goPG_ft, does_some, loopP_normal, loopP_exit, loopP_ret, contE_eq, contR_eq, row0, row1, row2, row3, expand_one, replicate_int, replicate_bool, mkSlice_one, idxS_new, idxA_new, len_slice, hget_set_self, Option.map_some, set_int, set_bool, get_set_eq, get_set_ne, op1_some, op2_some, ret1_some, retP_some, retB_some, push_eq, pickX_true, pickX_false, callR_some, callR_none, callX_some, callY_some, slcSX_some, slcX_some, slcAX_some, s_mov, s_pick, s_alloc, s_box, s_build, s_mkRow, s_load, s_nilChk, s_bin, s_eqB, s_eqNil, s_un, s_convI, s_convS, s_b2s, s_mkSlice, s_slcS, s_slc, s_slcA, s_fldA, s_fldV, s_idxS, s_idxA, s_idxStr, s_idxV, s_ext, s_mkFn, s_mkIf, s_len, s_mm, s_cap, s_eqIf, s_callF, s_callV, s_app, s_store, s_copy, q_mov, q_pick, q_alloc, q_box, q_build, q_mkRow, q_load, q_nilChk, q_bin, q_eqB, q_eqNil, q_un, q_convI, q_convS, q_b2s, q_mkSlice, q_slcS, q_slc, q_slcA, q_fldA, q_fldV, q_idxS, q_idxA, q_idxStr, q_idxV, q_ext, q_mkFn, q_mkIf, q_len, q_mm, q_callF, q_cap, q_eqIf, evs_nil, consO_some, evs_cons, evO_none, mapO_some, evO_some, evParts_nil, consP_some, evParts_cons, hiddenHeap_nil, hiddenHeap_true, hiddenHeap_false, hiddenHeap_all, hpush_nil, ev_tmp, ev_const, fget_cons', fput_nil, fput_cons', fputO_some, fputO_none, elemB_nil, elemB_cons', fkeep_nil, fkeep_cons', args0, slotsL, opdsA, List.cons_append, List.nil_append, List.map_cons, List.map_nil, List.append_nil, Option.toList_some, Option.toList_none, decide_yes, decide_no, b_lss, b_leq, b_gtr, b_geq, b_eql, b_neq, b_add, b_sub, b_mul, b_quo_pos, b_rem_pos, b_seql, b_sneq, wrap64, u_not, u_neg, not_decide', eqB_f, eqB_t, idxNat_in, mm_max, mm_min, convI_int, ext_tuple, lget_zero, lget_succ, loadA_old, aload_old, callP_old, callP_rounds, gcO_some, retE_ret, retE_normal, Value.int.injEq, Value.bool.injEq, Value.string.injEq, true_and, and_true, and_self, retP_ret, retP_normal, retX_some, retW_ret, retW_normal, retWX_some, resOf_nil, resOf_tmp, resOf_cell, tupleOf_one, tupleOf_two, loadO_new, loadB_some, Nat.reduceEqDiff, Nat.reduceLT, Nat.reduceAdd, Nat.reduceBEq, Int.reduceAdd, Int.reduceSub, Int.reduceLT, Int.reduceLE, Int.reduceEq, Int.reduceNeg, ↓reduceIte, if_true, if_false, Bool.false_eq_true, Bool.not_true, Bool.not_false, List.length_cons, List.length_nil, List.length_singleton, reduceCtorEq, Int.toNat_natCast, decide_true, decide_false, Nat.zero_add, Nat.add_zero, Int.add_sub_cancel, eq_self, not_true_eq_false, not_false_eq_true, hget_push_one, hget_push_lt, hget_push_gt, hget_set_ne, storeA_new, storeB_some, one_int, one_bool, one_string, one_slice, one_pointer, lget_map, gc_int, gc_bool, gc_string, gc_nil_int, gc_int_int, gc_string_int, Option.some.injEq, Prod.mk.injEq, c21l1, hV.idx, hV.load, hvk, hr.len]) | (refine does_goI_dec (fun _ => ?_) (fun _ => ?_)) | (refine does_goG_dec (fun _ => ?_) (fun _ => ?_)) | (refine does_goI (fun _ => ?_) (fun _ => ?_)) | (refine does_goG (fun _ => ?_) (fun _ => ?_)))
        rw [hj]
        have : ckS lk = 4 := by simp [ckS]; omega
        simp [chkAll, this]
      · repeat' (first | (simp (disch := first | omega | assumption | exact callP_old _ _ _ _ _ | exact one_int _ _ | exact one_bool _ | exact one_string _ | exact one_slice _ _ _ | exact one_pointer _ | exact hget_push_one _ _ _ _ (by omega) | (simp only [List.length_map, List.length_set, List.length_replicate]; omega) | (rw [hget_push_lt _ _ _ _ (by omega)]; first | assumption | exact hget_push_one _ _ _ _ (by omega))) only [runK_nil, runK_seq, runK_seq_exit, runK_seq_ret, runK_block_normal, runK_block_exit, runK_block_ret, go_skip, go_ret, go_exit, go_seq, go_block, go_ops, goO_nil, goO_cons, goV_some, goO_guard, goG_yes, goG_tf, goG_ft, go_cond, goI_true, goI_false, go_draw, goP_nil, goP_cons, goPV_some, goP_guard, goPG_yes, goPG_tf, goPG_ft, does_some, loopP_normal, loopP_exit, loopP_ret, contE_eq, contR_eq, row0, row1, row2, row3, expand_one, replicate_int, replicate_bool, mkSlice_one, idxS_new, idxA_new, len_slice, hget_set_self, Option.map_some, set_int, set_bool, get_set_eq, get_set_ne, op1_some, op2_some, ret1_some, retP_some, retB_some, push_eq, pickX_true, pickX_false, callR_some, callR_none, callX_some, callY_some, slcSX_some, slcX_some, slcAX_some, s_mov, s_pick, s_alloc, s_box, s_build, s_mkRow, s_load, s_nilChk, s_bin, s_eqB, s_eqNil, s_un, s_convI, s_convS, s_b2s, s_mkSlice, s_slcS, s_slc, s_slcA, s_fldA, s_fldV, s_idxS, s_idxA, s_idxStr, s_idxV, s_ext, s_mkFn, s_mkIf, s_len, s_mm, s_cap, s_eqIf, s_callF, s_callV, s_app, s_store, s_copy, q_mov, q_pick, q_alloc, q_box, q_build, q_mkRow, q_load, q_nilChk, q_bin, q_eqB, q_eqNil, q_un, q_convI, q_convS, q_b2s, q_mkSlice, q_slcS, q_slc, q_slcA, q_fldA, q_fldV, q_idxS, q_idxA, q_idxStr, q_idxV, q_ext, q_mkFn, q_mkIf, q_len, q_mm, q_callF, q_cap, q_eqIf, evs_nil, consO_some, evs_cons, evO_none, mapO_some, evO_some, evParts_nil, consP_some, evParts_cons, hiddenHeap_nil, hiddenHeap_true, hiddenHeap_false, hiddenHeap_all, hpush_nil, ev_tmp, ev_const, fget_cons', fput_nil, fput_cons', fputO_some, fputO_none, elemB_nil, elemB_cons', fkeep_nil, fkeep_cons', args0, slotsL, opdsA, List.cons_append, List.nil_append, List.map_cons, List.map_nil, List.append_nil, Option.toList_some, Option.toList_none, decide_yes, decide_no, b_lss, b_leq, b_gtr, b_geq, b_eql, b_neq, b_add, b_sub, b_mul, b_quo_pos, b_rem_pos, b_seql, b_sneq, wrap64, u_not, u_neg, not_decide', eqB_f, eqB_t, idxNat_in, mm_max, mm_min, convI_int, ext_tuple, lget_zero, lget_succ, loadA_old, aload_old, callP_old, callP_rounds, gcO_some, retE_ret, retE_normal, Value.int.injEq, Value.bool.injEq, Value.string.injEq, true_and, and_true, and_self, retP_ret, retP_normal, retX_some, retW_ret, retW_normal, retWX_some, resOf_nil, resOf_tmp, resOf_cell, tupleOf_one, tupleOf_two, loadO_new, loadB_some, Nat.reduceEqDiff, Nat.reduceLT, Nat.reduceAdd, Nat.reduceBEq, Int.reduceAdd, Int.reduceSub, Int.reduceLT, Int.reduceLE, Int.reduceEq, Int.reduceNeg, ↓reduceIte, if_true, if_false, Bool.false_eq_true, Bool.not_true, Bool.not_false, List.length_cons, List.length_nil, List.length_singleton, reduceCtorEq, Int.toNat_natCast, decide_true, decide_false, Nat.zero_add, Nat.add_zero, Int.add_sub_cancel, eq_self, not_true_eq_false, not_false_eq_true, hget_push_one, hget_push_lt, hget_push_gt, hget_set_ne, storeA_new, storeB_some, one_int, one_bool, one_string, one_slice, one_pointer, lget_map, gc_int, gc_bool, gc_string, gc_nil_int, gc_int_int, gc_string_int, Option.some.injEq, Prod.mk.injEq, c21l1, hV.idx, hV.load, hvk, hr.len]) | (refine does_goI_dec (fun _ => ?_) (fun _ => ?_)) | (refine does_goG_dec (fun _ => ?_) (fun _ => ?_)) | (refine does_goI (fun _ => ?_) (fun _ => ?_)) | (refine does_goG (fun _ => ?_) (fun _ => ?_)))
        refine does_while (fun q fr t => ∃ i : Nat, q = lk.length - i ∧ i ≤ lk.length ∧ fr = [(7, V), (8, .int .i64 ls.length), (9, .int .i64 k), (16, vk), (17, .int .i64 lk.length), (18, .int .i64 i)] ∧ t = ⟨h, nx, nx⟩ ∧
          ∀ j, j < i → 0 ≤ lk[j]! ∧ lk[j]! < 400) (m := lk.length) ?_ ?_ ?_
        · exact ⟨0, by omega, by omega, rfl, rfl, by omega⟩
        · simp (disch := first | omega | assumption | exact callP_old _ _ _ _ _ | exact one_int _ _ | exact one_bool _ | exact one_string _ | exact one_slice _ _ _ | exact one_pointer _ | exact hget_push_one _ _ _ _ (by omega) | (simp only [List.length_map, List.length_set, List.length_replicate]; omega) | (rw [hget_push_lt _ _ _ _ (by omega)]; first | assumption | exact hget_push_one _ _ _ _ (by omega))) only [runK_nil, runK_seq, runK_seq_exit, runK_seq_ret, runK_block_normal, runK_block_exit, runK_block_ret, go_skip, go_ret, go_exit, go_seq, go_block, go_ops, goO_nil, goO_cons, goV_some, goO_guard, goG_yes, goG_tf, goG_ft, go_cond, goI_true, goI_false, go_draw, goP_nil, goP_cons, goPV_some, goP_guard, goPG_yes, goPG_tf, goPG_ft, does_some, loopP_normal, loopP_exit, loopP_ret, contE_eq, contR_eq, row0, row1, row2, row3, expand_one, replicate_int, replicate_bool, mkSlice_one, idxS_new, idxA_new, len_slice, hget_set_self, Option.map_some, set_int, set_bool, get_set_eq, get_set_ne, op1_some, op2_some, ret1_some, retP_some, retB_some, push_eq, pickX_true, pickX_false, callR_some, callR_none, callX_some, callY_some, slcSX_some, slcX_some, slcAX_some, s_mov, s_pick, s_alloc, s_box, s_build, s_mkRow, s_load, s_nilChk, s_bin, s_eqB, s_eqNil, s_un, s_convI, s_convS, s_b2s, s_mkSlice, s_slcS, s_slc, s_slcA, s_fldA, s_fldV, s_idxS, s_idxA, s_idxStr, s_idxV, s_ext, s_mkFn, s_mkIf, s_len, s_mm, s_cap, s_eqIf, s_callF, s_callV, s_app, s_store, s_copy, q_mov, q_pick, q_alloc, q_box, q_build, q_mkRow, q_load, q_nilChk, q_bin, q_eqB, q_eqNil, q_un, q_convI, q_convS, q_b2s, q_mkSlice, q_slcS, q_slc, q_slcA, q_fldA, q_fldV, q_idxS, q_idxA, q_idxStr, q_idxV, q_ext, q_mkFn, q_mkIf, q_len, q_mm, q_callF, q_cap, q_eqIf, evs_nil, consO_some, evs_cons, evO_none, mapO_some, evO_some, evParts_nil, consP_some, evParts_cons, hiddenHeap_nil, hiddenHeap_true, hiddenHeap_false, hiddenHeap_all, hpush_nil, ev_tmp, ev_const, fget_cons', fput_nil, fput_cons', fputO_some, fputO_none, elemB_nil, elemB_cons', fkeep_nil, fkeep_cons', args0, slotsL, opdsA, List.cons_append, List.nil_append, List.map_cons, List.map_nil, List.append_nil, Option.toList_some, Option.toList_none, decide_yes, decide_no, b_lss, b_leq, b_gtr, b_geq, b_eql, b_neq, b_add, b_sub, b_mul, b_quo_pos, b_rem_pos, b_seql, b_sneq, wrap64, u_not, u_neg, not_decide', eqB_f, eqB_t, idxNat_in, mm_max, mm_min, convI_int, ext_tuple, lget_zero, lget_succ, loadA_old, aload_old, callP_old, callP_rounds, gcO_some, retE_ret, retE_normal, Value.int.injEq, Value.bool.injEq, Value.string.injEq, true_and, and_true, and_self, retP_ret, retP_normal, retX_some, retW_ret, retW_normal, retWX_some, resOf_nil, resOf_tmp, resOf_cell, tupleOf_one, tupleOf_two, loadO_new, loadB_some, Nat.reduceEqDiff, Nat.reduceLT, Nat.reduceAdd, Nat.reduceBEq, Int.reduceAdd, Int.reduceSub, Int.reduceLT, Int.reduceLE, Int.reduceEq, Int.reduceNeg, ↓reduceIte, if_true, if_false, Bool.false_eq_true, Bool.not_true, Bool.not_false, List.length_cons, List.length_nil, List.length_singleton, reduceCtorEq, Int.toNat_natCast, decide_true, decide_false, Nat.zero_add, Nat.add_zero, Int.add_sub_cancel, eq_self, not_true_eq_false, not_false_eq_true, hget_push_one, hget_push_lt, hget_push_gt, hget_set_ne, storeA_new, storeB_some, one_int, one_bool, one_string, one_slice, one_pointer, lget_map, gc_int, gc_bool, gc_string, gc_nil_int, gc_int_int, gc_string_int, Option.some.injEq, Prod.mk.injEq]
          unfold many; omega
        · rintro q fr t ⟨i, rfl, hi, rfl, rfl, hji⟩
          repeat' (first | (simp (disch := first | omega | assumption | exact callP_old _ _ _ _ _ | exact one_int _ _ | exact one_bool _ | exact one_string _ | exact one_slice _ _ _ | exact one_pointer _ | exact hget_push_one _ _ _ _ (by omega) | (simp only [List.length_map, List.length_set, List.length_replicate]; omega) | (rw [hget_push_lt _ _ _ _ (by omega)]; first | assumption | exact hget_push_one _ _ _ _ (by omega))) only [runK_nil, runK_seq, runK_seq_exit, runK_seq_ret, runK_block_normal, runK_block_exit, runK_block_ret, go_skip, go_ret, go_exit, go_seq, go_block, go_ops, goO_nil, goO_cons, goV_some, goO_guard, goG_yes, goG_tf, goG_ft, go_cond, goI_true, goI_false, go_draw, goP_nil, goP_cons, goPV_some, goP_guard, goPG_yes, goPG_tf, goPG_ft, does_some, loopP_normal, loopP_exit, loopP_ret, contE_eq, contR_eq, row0, row1, row2, row3, expand_one, replicate_int, replicate_bool, mkSlice_one, idxS_new, idxA_new, len_slice, hget_set_self, Option.map_some, set_int, set_bool, get_set_eq, get_set_ne, op1_some, op2_some, ret1_some, retP_some, retB_some, push_eq, pickX_true, pickX_false, callR_some, callR_none, callX_some, callY_some, slcSX_some, slcX_some, slcAX_some, s_mov, s_pick, s_alloc, s_box, s_build, s_mkRow, s_load, s_nilChk, s_bin, s_eqB, s_eqNil, s_un, s_convI, s_convS, s_b2s, s_mkSlice, s_slcS, s_slc, s_slcA, s_fldA, s_fldV, s_idxS, s_idxA, s_idxStr, s_idxV, s_ext, s_mkFn, s_mkIf, s_len, s_mm, s_cap, s_eqIf, s_callF, s_callV, s_app, s_store, s_copy, q_mov, q_pick, q_alloc, q_box, q_build, q_mkRow, q_load, q_nilChk, q_bin, q_eqB, q_eqNil, q_un, q_convI, q_convS, q_b2s, q_mkSlice, q_slcS, q_slc, q_slcA, q_fldA, q_fldV, q_idxS, q_idxA, q_idxStr, q_idxV, q_ext, q_mkFn, q_mkIf, q_len, q_mm, q_callF, q_cap, q_eqIf, evs_nil, consO_some, evs_cons, evO_none, mapO_some, evO_some, evParts_nil, consP_some, evParts_cons, hiddenHeap_nil, hiddenHeap_true, hiddenHeap_false, hiddenHeap_all, hpush_nil, ev_tmp, ev_const, fget_cons', fput_nil, fput_cons', fputO_some, fputO_none, elemB_nil, elemB_cons', fkeep_nil, fkeep_cons', args0, slotsL, opdsA, List.cons_append, List.nil_append, List.map_cons, List.map_nil, List.append_nil, Option.toList_some, Option.toList_none, decide_yes, decide_no, b_lss, b_leq, b_gtr, b_geq, b_eql, b_neq, b_add, b_sub, b_mul, b_quo_pos, b_rem_pos, b_seql, b_sneq, wrap64, u_not, u_neg, not_decide', eqB_f, eqB_t, idxNat_in, mm_max, mm_min, convI_int, ext_tuple, lget_zero, lget_succ, loadA_old, aload_old, callP_old, callP_rounds, gcO_some, retE_ret, retE_normal, Value.int.injEq, Value.bool.injEq, Value.string.injEq, true_and, and_true, and_self, retP_ret, retP_normal, retX_some, retW_ret, retW_normal, retWX_some, resOf_nil, resOf_tmp, resOf_cell, tupleOf_one, tupleOf_two, loadO_new, loadB_some, Nat.reduceEqDiff, Nat.reduceLT, Nat.reduceAdd, Nat.reduceBEq, Int.reduceAdd, Int.reduceSub, Int.reduceLT, Int.reduceLE, Int.reduceEq, Int.reduceNeg, ↓reduceIte, if_true, if_false, Bool.false_eq_true, Bool.not_true, Bool.not_false, List.length_cons, List.length_nil, List.length_singleton, reduceCtorEq, Int.toNat_natCast, decide_true, decide_false, Nat.zero_add, Nat.add_zero, Int.add_sub_cancel, eq_self, not_true_eq_false, not_false_eq_true, hget_push_one, hget_push_lt, hget_push_gt, hget_set_ne, storeA_new, storeB_some, one_int, one_bool, one_string, one_slice, one_pointer, lget_map, gc_int, gc_bool, gc_string, gc_nil_int, gc_int_int, gc_string_int, Option.some.injEq, Prod.mk.injEq, c21l0, hr.idx, hr.load, vI]) | (refine does_goI_dec (fun _ => ?_) (fun _ => ?_)) | (refine does_goG_dec (fun _ => ?_) (fun _ => ?_)) | (refine does_goI (fun _ => ?_) (fun _ => ?_)) | (refine does_goG (fun _ => ?_) (fun _ => ?_)))
          · have := fits_no (l := lk) (k := i) (by omega) (Or.inl (by assumption))
            rw [hj]; simp [chkAll, ckS, this]; omega
          · have := fits_no (l := lk) (k := i) (by omega) (Or.inr (by assumption))
            rw [hj]; simp [chkAll, ckS, this]; omega
          · refine ⟨_, ?_, i + 1, rfl, by omega, by simp, fun j hj' => ?_⟩
            · omega
            · rcases Nat.lt_succ_iff_lt_or_eq.1 hj' with h' | rfl
              · exact hji j h'
              · omega
          · have hf := fits_yes (l := lk) (fun j h => hji j (by omega))
            have hc : ckS lk = 0 := by simp [ckS, hf]; omega
            refine ⟨_, ?_, k + 1, rfl, by omega, by simp, ?_⟩
            · omega
            · rw [hj]; simp [chkAll, hc]
    · have : k = ls.length := by omega
      subst this
      repeat' (first | (simp (disch := first | omega | assumption | exact callP_old _ _ _ _ _ | exact one_int _ _ | exact one_bool _ | exact one_string _ | exact one_slice _ _ _ | exact one_pointer _ | exact hget_push_one _ _ _ _ (by omega) | (simp only [List.length_map, List.length_set, List.length_replicate]; omega) | (rw [hget_push_lt _ _ _ _ (by omega)]; first | assumption | exact hget_push_one _ _ _ _ (by omega))) only [runK_nil, runK_seq, runK_seq_exit, runK_seq_ret, runK_block_normal, runK_block_exit, runK_block_ret, go_skip, go_ret, go_exit, go_seq, go_block, go_ops, goO_nil, goO_cons, goV_some, goO_guard, goG_yes, goG_tf, goG_ft, go_cond, goI_true, goI_false, go_draw, goP_nil, goP_cons, goPV_some, goP_guard, goPG_yes, goPG_tf, goPG_ft, does_some, loopP_normal, loopP_exit, loopP_ret, contE_eq, contR_eq, row0, row1, row2, row3, expand_one, replicate_int, replicate_bool, mkSlice_one, idxS_new, idxA_new, len_slice, hget_set_self, Option.map_some, set_int, set_bool, get_set_eq, get_set_ne, op1_some, op2_some, ret1_some, retP_some, retB_some, push_eq, pickX_true, pickX_false, callR_some, callR_none, callX_some, callY_some, slcSX_some, slcX_some, slcAX_some, s_mov, s_pick, s_alloc, s_box, s_build, s_mkRow, s_load, s_nilChk, s_bin, s_eqB, s_eqNil, s_un, s_convI, s_convS, s_b2s, s_mkSlice, s_slcS, s_slc, s_slcA, s_fldA, s_fldV, s_idxS, s_idxA, s_idxStr, s_idxV, s_ext, s_mkFn, s_mkIf, s_len, s_mm, s_cap, s_eqIf, s_callF, s_callV, s_app, s_store, s_copy, q_mov, q_pick, q_alloc, q_box, q_build, q_mkRow, q_load, q_nilChk, q_bin, q_eqB, q_eqNil, q_un, q_convI, q_convS, q_b2s, q_mkSlice, q_slcS, q_slc, q_slcA, q_fldA, q_fldV, q_idxS, q_idxA, q_idxStr, q_idxV, q_ext, q_mkFn, q_mkIf, q_len, q_mm, q_callF, q_cap, q_eqIf, evs_nil, consO_some, evs_cons, evO_none, mapO_some, evO_some, evParts_nil, consP_some, evParts_cons, hiddenHeap_nil, hiddenHeap_true, hiddenHeap_false, hiddenHeap_all, hpush_nil, ev_tmp, ev_const, fget_cons', fput_nil, fput_cons', fputO_some, fputO_none, elemB_nil, elemB_cons', fkeep_nil, fkeep_cons', args0, slotsL, opdsA, List.cons_append, List.nil_append, List.map_cons, List.map_nil, List.append_nil, Option.toList_some, Option.toList_none, decide_yes, decide_no, b_lss, b_leq, b_gtr, b_geq, b_eql, b_neq, b_add, b_sub, b_mul, b_quo_pos, b_rem_pos, b_seql, b_sneq, wrap64, u_not, u_neg, not_decide', eqB_f, eqB_t, idxNat_in, mm_max, mm_min, convI_int, ext_tuple, lget_zero, lget_succ, loadA_old, aload_old, callP_old, callP_rounds, gcO_some, retE_ret, retE_normal, Value.int.injEq, Value.bool.injEq, Value.string.injEq, true_and, and_true, and_self, retP_ret, retP_normal, retX_some, retW_ret, retW_normal, retWX_some, resOf_nil, resOf_tmp, resOf_cell, tupleOf_one, tupleOf_two, loadO_new, loadB_some, Nat.reduceEqDiff, Nat.reduceLT, Nat.reduceAdd, Nat.reduceBEq, Int.reduceAdd, Int.reduceSub, Int.reduceLT, Int.reduceLE, Int.reduceEq, Int.reduceNeg, ↓reduceIte, if_true, if_false, Bool.false_eq_true, Bool.not_true, Bool.not_false, List.length_cons, List.length_nil, List.length_singleton, reduceCtorEq, Int.toNat_natCast, decide_true, decide_false, Nat.zero_add, Nat.add_zero, Int.add_sub_cancel, eq_self, not_true_eq_false, not_false_eq_true, hget_push_one, hget_push_lt, hget_push_gt, hget_set_ne, storeA_new, storeB_some, one_int, one_bool, one_string, one_slice, one_pointer, lget_map, gc_int, gc_bool, gc_string, gc_nil_int, gc_int_int, gc_string_int, Option.some.injEq, Prod.mk.injEq, c21l1]) | (refine does_goI_dec (fun _ => ?_) (fun _ => ?_)) | (refine does_goG_dec (fun _ => ?_) (fun _ => ?_)) | (refine does_goI (fun _ => ?_) (fun _ => ?_)) | (refine does_goG (fun _ => ?_) (fun _ => ?_)))
      rw [hj]; simp [chkAll]
/-- of one list, and of two, as the callers write it -/
theorem check1_p (w : World) (n : Nat) {v : Value} {l : List Int} {h : Heap} {nx p : Nat} {j : Nat} {e g t} (hh : hget h j = some ⟨[v], e, g, t⟩) (hv : Rd (oldOf w) h vI v l) (hl : l.length ≤ 1000000) :
    (EN w (n + 1)).pcall 21 [.slice (some ⟨j, 0, some 0⟩) 1 1] ⟨h, nx, p⟩ = some (.int .i64 (ckS l), []) := by
  rw [check_p w n (ls := [l]) (vs := [v]) (Rd.newb (n := 1) hh (by simp) rfl (by simp [knownCap, big])) rfl (by simp) (fun k hk => by
    have : k = 0 := by simpa using hk
    subst this; exact ⟨hv, hl⟩)]
  by_cases h1 : ckS l = 0 <;> simp [chkAll, h1]
theorem check2_p (w : World) (n : Nat) {u v : Value} {l m : List Int} {h : Heap} {nx p : Nat} {j : Nat} {e g t} (hh : hget h j = some ⟨[u, v], e, g, t⟩) (hu : Rd (oldOf w) h vI u l) (hv : Rd (oldOf w) h vI v m) (hl : l.length ≤ 1000000) (hm : m.length ≤ 1000000) :
    (EN w (n + 1)).pcall 21 [.slice (some ⟨j, 0, some 0⟩) 2 2] ⟨h, nx, p⟩ = some (.int .i64 (ck2 l m), []) := by
  rw [check_p w n (ls := [l, m]) (vs := [u, v]) (Rd.newb (n := 2) hh (by simp) rfl (by simp [knownCap, big])) rfl (by simp) (fun k hk => by
    have : k = 0 ∨ k = 1 := by simp at hk; omega
    rcases this with rfl | rfl
    · exact ⟨hu, hl⟩
    · exact ⟨hv, hm⟩)]
  by_cases h1 : ckS l = 0 <;> by_cases h2 : ckS m = 0 <;> simp [chkAll, ck2, h1, h2]
end Go.Proofs.Ytkjkiodoighgnaa
namespace Go.Proofs.Ytkjkiodoighgnaa
open Go Go.Itp
set_option linter.unusedSimpArgs false
set_option linter.unusedVariables false

/-! ### renumbering: the plain law -/
/-- the different elements, in the order in which they occur first -/
def distTo (l : List Int) : Nat → List Int
  | 0 => []
  | k + 1 => if l[k]! ∈ distTo l k then distTo l k else distTo l k ++ [l[k]!]
def renTo' (l : List Int) : Nat → List Int
  | 0 => []
  | k + 1 => renTo' l k ++ [(((distTo l k).idxOf l[k]! : Nat) : Int)]
theorem distTo_succ (l : List Int) (k : Nat) : distTo l (k + 1) = if l[k]! ∈ distTo l k then distTo l k else distTo l k ++ [l[k]!] := rfl
theorem renTo_succ (l : List Int) (k : Nat) : renTo' l (k + 1) = renTo' l k ++ [(((distTo l k).idxOf l[k]! : Nat) : Int)] := rfl
theorem renTo_len (l : List Int) : ∀ k, (renTo' l k).length = k
  | 0 => rfl
  | k + 1 => by simp [renTo_succ, renTo_len l k]
theorem distTo_mem (l : List Int) (x : Int) : ∀ k, x ∈ distTo l k ↔ ∃ j, j < k ∧ l[j]! = x
  | 0 => by simp [distTo]
  | k + 1 => by
    rw [distTo_succ]
    have ih := distTo_mem l x k
    split
    · rename_i h
      rw [ih]
      constructor
      · rintro ⟨j, h1, h2⟩; exact ⟨j, by omega, h2⟩
      · rintro ⟨j, h1, h2⟩
        by_cases hj : j = k
        · subst hj; rw [h2] at h; exact ih.1 h
        · exact ⟨j, by omega, h2⟩
    · rw [List.mem_append, ih, List.mem_singleton]
      constructor
      · rintro (⟨j, h1, h2⟩ | h)
        · exact ⟨j, by omega, h2⟩
        · exact ⟨k, by omega, h.symm⟩
      · rintro ⟨j, h1, h2⟩
        by_cases hj : j = k
        · subst hj; exact Or.inr h2.symm
        · exact Or.inl ⟨j, by omega, h2⟩
theorem distTo_pre (l : List Int) : ∀ j k, j ≤ k → ∃ r, distTo l k = distTo l j ++ r
  | j, 0, h => by have : j = 0 := by omega
                  subst this; exact ⟨[], by simp⟩
  | j, k + 1, h => by
    by_cases hj : j = k + 1
    · subst hj; exact ⟨[], by simp⟩
    · obtain ⟨r, hr⟩ := distTo_pre l j k (by omega)
      rw [distTo_succ]
      split
      · exact ⟨r, hr⟩
      · exact ⟨r ++ [l[k]!], by rw [hr, List.append_assoc]⟩
theorem distTo_le (l : List Int) : ∀ k, (distTo l k).length ≤ k
  | 0 => by simp [distTo]
  | k + 1 => by
    have := distTo_le l k
    rw [distTo_succ]; split
    · omega
    · simp; omega
theorem renTo_get (l : List Int) (i : Nat) : ∀ j, i < j → (renTo' l j)[i]! = ((distTo l i).idxOf l[i]! : Nat) := by
  intro j
  induction j with
  | zero => intro h; omega
  | succ j ih =>
    intro hi
    rw [renTo_succ]
    by_cases h : i = j
    · subst h
      rw [get_app_r _ _ _ (by simp [renTo_len]) (by simp [renTo_len])]
      simp [renTo_len]
    · rw [get_app_l _ _ _ (by rw [renTo_len]; omega), ih (by omega)]
/-- the number of an element is that of its first place -/
theorem ren_first (l : List Int) (i j : Nat) (hij : i < j) (h : l[i]! = l[j]!) (hf : ∀ k, k < i → l[k]! ≠ l[j]!) : (renTo' l j)[i]! = ((distTo l j).idxOf l[j]! : Nat) := by
  rw [renTo_get l i j hij]
  have hn : l[i]! ∉ distTo l i := fun hm => by
    obtain ⟨k, h1, h2⟩ := (distTo_mem l _ i).1 hm
    exact hf k h1 (by rw [h2, h])
  obtain ⟨r, hr⟩ := distTo_pre l (i + 1) j (by omega)
  have e : distTo l (i + 1) = distTo l i ++ [l[i]!] := by
    show (if l[i]! ∈ distTo l i then distTo l i else distTo l i ++ [l[i]!]) = _
    rw [if_neg hn]
  rw [hr, e, ← h, List.append_assoc, List.idxOf_append, if_neg hn, List.idxOf_eq_length hn]
  simp [List.idxOf_cons]
theorem ren_new (l : List Int) (j : Nat) (hf : ∀ k, k < j → l[k]! ≠ l[j]!) : l[j]! ∉ distTo l j := fun hm => by
  obtain ⟨k, h1, h2⟩ := (distTo_mem l _ j).1 hm
  exact hf k h1 h2

/-! ### the reference -/
/-- the first place of a number among the first ones of a list, or -1 -/
def placeN (l : List Int) (x : Int) : Nat → Int
  | 0 => -1
  | k + 1 => let r := placeN l x k; if 0 ≤ r then r else if l[k]! = x then k else -1
theorem placeN_none {l : List Int} {x : Int} : ∀ k, (∀ j, j < k → l[j]! ≠ x) → placeN l x k = -1
  | 0, _ => rfl
  | k + 1, h => by
    simp only [placeN]
    rw [placeN_none k (fun j hj => h j (by omega)), if_neg (by omega), if_neg (h k (by omega))]
theorem placeN_some {l : List Int} {x : Int} {i : Nat} (hi : l[i]! = x) (h : ∀ j, j < i → l[j]! ≠ x) : ∀ k, i < k → placeN l x k = i
  | 0, h => by omega
  | k + 1, hk => by
    simp only [placeN]
    by_cases e : i = k
    · subst e; rw [placeN_none i h, if_neg (by omega), if_pos hi]
    · rw [placeN_some hi h k (by omega), if_pos (by omega)]
theorem place_p (w : World) (n : Nat) {v : Value} {l : List Int} {h : Heap} {nx p : Nat} (hr : Rd (oldOf w) h vI v l) (k0 : Nat) (hk0 : k0 ≤ l.length) (hm : l.length ≤ 1000000) (x : Int) :
    (EN w (n + 1)).pcall 32 [v, .int .i64 k0, .int .i64 x] ⟨h, nx, p⟩ = some (.int .i64 (placeN l x k0), []) := by
  refine pcall_eq rfl rfl (Nat.le_of_ble_eq_true rfl) ?_
  simp (disch := first | omega | assumption | exact callP_old _ _ _ _ _ | exact one_int _ _ | exact one_bool _ | exact one_string _ | exact one_slice _ _ _ | exact one_pointer _ | exact hget_push_one _ _ _ _ (by omega) | (simp only [List.length_map, List.length_set, List.length_replicate]; omega) | (rw [hget_push_lt _ _ _ _ (by omega)]; first | assumption | exact hget_push_one _ _ _ _ (by omega))) only [runK_nil, runK_seq, runK_seq_exit, runK_seq_ret, runK_block_normal, runK_block_exit, runK_block_ret, go_skip, go_ret, go_exit, go_seq, go_block, go_ops, goO_nil, goO_cons, goV_some, goO_guard, goG_yes, goG_tf, goG_ft, go_cond, goI_true, goI_false, go_draw, goP_nil, goP_cons, goPV_some, goP_guard, goPG_yes, goPG_tf, goPG_ft, does_some, loopP_normal, loopP_exit, loopP_ret, contE_eq, contR_eq, row0, row1, row2, row3, expand_one, replicate_int, replicate_bool, mkSlice_one, idxS_new, idxA_new, len_slice, hget_set_self, Option.map_some, set_int, set_bool, get_set_eq, get_set_ne, op1_some, op2_some, ret1_some, retP_some, retB_some, push_eq, pickX_true, pickX_false, callR_some, callR_none, callX_some, callY_some, slcSX_some, slcX_some, slcAX_some, s_mov, s_pick, s_alloc, s_box, s_build, s_mkRow, s_load, s_nilChk, s_bin, s_eqB, s_eqNil, s_un, s_convI, s_convS, s_b2s, s_mkSlice, s_slcS, s_slc, s_slcA, s_fldA, s_fldV, s_idxS, s_idxA, s_idxStr, s_idxV, s_ext, s_mkFn, s_mkIf, s_len, s_mm, s_cap, s_eqIf, s_callF, s_callV, s_app, s_store, s_copy, q_mov, q_pick, q_alloc, q_box, q_build, q_mkRow, q_load, q_nilChk, q_bin, q_eqB, q_eqNil, q_un, q_convI, q_convS, q_b2s, q_mkSlice, q_slcS, q_slc, q_slcA, q_fldA, q_fldV, q_idxS, q_idxA, q_idxStr, q_idxV, q_ext, q_mkFn, q_mkIf, q_len, q_mm, q_callF, q_cap, q_eqIf, evs_nil, consO_some, evs_cons, evO_none, mapO_some, evO_some, evParts_nil, consP_some, evParts_cons, hiddenHeap_nil, hiddenHeap_true, hiddenHeap_false, hiddenHeap_all, hpush_nil, ev_tmp, ev_const, fget_cons', fput_nil, fput_cons', fputO_some, fputO_none, elemB_nil, elemB_cons', fkeep_nil, fkeep_cons', args0, slotsL, opdsA, List.cons_append, List.nil_append, List.map_cons, List.map_nil, List.append_nil, Option.toList_some, Option.toList_none, decide_yes, decide_no, b_lss, b_leq, b_gtr, b_geq, b_eql, b_neq, b_add, b_sub, b_mul, b_quo_pos, b_rem_pos, b_seql, b_sneq, wrap64, u_not, u_neg, not_decide', eqB_f, eqB_t, idxNat_in, mm_max, mm_min, convI_int, ext_tuple, lget_zero, lget_succ, loadA_old, aload_old, callP_old, callP_rounds, gcO_some, retE_ret, retE_normal, Value.int.injEq, Value.bool.injEq, Value.string.injEq, true_and, and_true, and_self, retP_ret, retP_normal, retX_some, retW_ret, retW_normal, retWX_some, resOf_nil, resOf_tmp, resOf_cell, tupleOf_one, tupleOf_two, loadO_new, loadB_some, Nat.reduceEqDiff, Nat.reduceLT, Nat.reduceAdd, Nat.reduceBEq, Int.reduceAdd, Int.reduceSub, Int.reduceLT, Int.reduceLE, Int.reduceEq, Int.reduceNeg, ↓reduceIte, if_true, if_false, Bool.false_eq_true, Bool.not_true, Bool.not_false, List.length_cons, List.length_nil, List.length_singleton, reduceCtorEq, Int.toNat_natCast, decide_true, decide_false, Nat.zero_add, Nat.add_zero, Int.add_sub_cancel, eq_self, not_true_eq_false, not_false_eq_true, hget_push_one, hget_push_lt, hget_push_gt, hget_set_ne, storeA_new, storeB_some, one_int, one_bool, one_string, one_slice, one_pointer, lget_map, gc_int, gc_bool, gc_string, gc_nil_int, gc_int_int, gc_string_int, Option.some.injEq, Prod.mk.injEq]
  refine does_while (fun m fr t => ∃ k : Nat, m = k0 - k ∧ k ≤ k0 ∧ fr = [(0, v), (1, .int .i64 k0), (2, .int .i64 x), (7, .int .i64 k)] ∧ t = ⟨h, nx, nx⟩ ∧ ∀ j, j < k → l[j]! ≠ x) (m := k0) ?_ ?_ ?_
  · exact ⟨0, by omega, by omega, rfl, rfl, by omega⟩
  · simp (disch := first | omega | assumption | exact callP_old _ _ _ _ _ | exact one_int _ _ | exact one_bool _ | exact one_string _ | exact one_slice _ _ _ | exact one_pointer _ | exact hget_push_one _ _ _ _ (by omega) | (simp only [List.length_map, List.length_set, List.length_replicate]; omega) | (rw [hget_push_lt _ _ _ _ (by omega)]; first | assumption | exact hget_push_one _ _ _ _ (by omega))) only [runK_nil, runK_seq, runK_seq_exit, runK_seq_ret, runK_block_normal, runK_block_exit, runK_block_ret, go_skip, go_ret, go_exit, go_seq, go_block, go_ops, goO_nil, goO_cons, goV_some, goO_guard, goG_yes, goG_tf, goG_ft, go_cond, goI_true, goI_false, go_draw, goP_nil, goP_cons, goPV_some, goP_guard, goPG_yes, goPG_tf, goPG_ft, does_some, loopP_normal, loopP_exit, loopP_ret, contE_eq, contR_eq, row0, row1, row2, row3, expand_one, replicate_int, replicate_bool, mkSlice_one, idxS_new, idxA_new, len_slice, hget_set_self, Option.map_some, set_int, set_bool, get_set_eq, get_set_ne, op1_some, op2_some, ret1_some, retP_some, retB_some, push_eq, pickX_true, pickX_false, callR_some, callR_none, callX_some, callY_some, slcSX_some, slcX_some, slcAX_some, s_mov, s_pick, s_alloc, s_box, s_build, s_mkRow, s_load, s_nilChk, s_bin, s_eqB, s_eqNil, s_un, s_convI, s_convS, s_b2s, s_mkSlice, s_slcS, s_slc, s_slcA, s_fldA, s_fldV, s_idxS, s_idxA, s_idxStr, s_idxV, s_ext, s_mkFn, s_mkIf, s_len, s_mm, s_cap, s_eqIf, s_callF, s_callV, s_app, s_store, s_copy, q_mov, q_pick, q_alloc, q_box, q_build, q_mkRow, q_load, q_nilChk, q_bin, q_eqB, q_eqNil, q_un, q_convI, q_convS, q_b2s, q_mkSlice, q_slcS, q_slc, q_slcA, q_fldA, q_fldV, q_idxS, q_idxA, q_idxStr, q_idxV, q_ext, q_mkFn, q_mkIf, q_len, q_mm, q_callF, q_cap, q_eqIf, evs_nil, consO_some, evs_cons, evO_none, mapO_some, evO_some, evParts_nil, consP_some, evParts_cons, hiddenHeap_nil, hiddenHeap_true, hiddenHeap_false, hiddenHeap_all, hpush_nil, ev_tmp, ev_const, fget_cons', fput_nil, fput_cons', fputO_some, fputO_none, elemB_nil, elemB_cons', fkeep_nil, fkeep_cons', args0, slotsL, opdsA, List.cons_append, List.nil_append, List.map_cons, List.map_nil, List.append_nil, Option.toList_some, Option.toList_none, decide_yes, decide_no, b_lss, b_leq, b_gtr, b_geq, b_eql, b_neq, b_add, b_sub, b_mul, b_quo_pos, b_rem_pos, b_seql, b_sneq, wrap64, u_not, u_neg, not_decide', eqB_f, eqB_t, idxNat_in, mm_max, mm_min, convI_int, ext_tuple, lget_zero, lget_succ, loadA_old, aload_old, callP_old, callP_rounds, gcO_some, retE_ret, retE_normal, Value.int.injEq, Value.bool.injEq, Value.string.injEq, true_and, and_true, and_self, retP_ret, retP_normal, retX_some, retW_ret, retW_normal, retWX_some, resOf_nil, resOf_tmp, resOf_cell, tupleOf_one, tupleOf_two, loadO_new, loadB_some, Nat.reduceEqDiff, Nat.reduceLT, Nat.reduceAdd, Nat.reduceBEq, Int.reduceAdd, Int.reduceSub, Int.reduceLT, Int.reduceLE, Int.reduceEq, Int.reduceNeg, ↓reduceIte, if_true, if_false, Bool.false_eq_true, Bool.not_true, Bool.not_false, List.length_cons, List.length_nil, List.length_singleton, reduceCtorEq, Int.toNat_natCast, decide_true, decide_false, Nat.zero_add, Nat.add_zero, Int.add_sub_cancel, eq_self, not_true_eq_false, not_false_eq_true, hget_push_one, hget_push_lt, hget_push_gt, hget_set_ne, storeA_new, storeB_some, one_int, one_bool, one_string, one_slice, one_pointer, lget_map, gc_int, gc_bool, gc_string, gc_nil_int, gc_int_int, gc_string_int, Option.some.injEq, Prod.mk.injEq]
    unfold many; omega
  · rintro m fr t ⟨k, rfl, hk, rfl, rfl, hj⟩
    repeat' (first | (simp (disch := first | omega | assumption | exact callP_old _ _ _ _ _ | exact one_int _ _ | exact one_bool _ | exact one_string _ | exact one_slice _ _ _ | exact one_pointer _ | exact hget_push_one _ _ _ _ (by omega) | (simp only [List.length_map, List.length_set, List.length_replicate]; omega) | (rw [hget_push_lt _ _ _ _ (by omega)]; first | assumption | exact hget_push_one _ _ _ _ (by omega))) only [runK_nil, runK_seq, runK_seq_exit, runK_seq_ret, runK_block_normal, runK_block_exit, runK_block_ret, go_skip, go_ret, go_exit, go_seq, go_block, go_ops, goO_nil, goO_cons, goV_some, goO_guard, goG_yes, goG_tf, goG_ft, go_cond, goI_true, goI_false, go_draw, goP_nil, goP_cons, goPV_some, goP_guard, goPG_yes, goPG_tf, goPG_ft, does_some, loopP_normal, loopP_exit, loopP_ret, contE_eq, contR_eq, row0, row1, row2, row3, expand_one, replicate_int, replicate_bool, mkSlice_one, idxS_new, idxA_new, len_slice, hget_set_self, Option.map_some, set_int, set_bool, get_set_eq, get_set_ne, op1_some, op2_some, ret1_some, retP_some, retB_some, push_eq, pickX_true, pickX_false, callR_some, callR_none, callX_some, callY_some, slcSX_some, slcX_some, slcAX_some, s_mov, s_pick, s_alloc, s_box, s_build, s_mkRow, s_load, s_nilChk, s_bin, s_eqB, s_eqNil, s_un, s_convI, s_convS, s_b2s, s_mkSlice, s_slcS, s_slc, s_slcA, s_fldA, s_fldV, s_idxS, s_idxA, s_idxStr, s_idxV, s_ext, s_mkFn, s_mkIf, s_len, s_mm, s_cap, s_eqIf, s_callF, s_callV, s_app, s_store, s_copy, q_mov, q_pick, q_alloc, q_box, q_build, q_mkRow, q_load, q_nilChk, q_bin, q_eqB, q_eqNil, q_un, q_convI, q_convS, q_b2s, q_mkSlice, q_slcS, q_slc, q_slcA, q_fldA, q_fldV, q_idxS, q_idxA, q_idxStr, q_idxV, q_ext, q_mkFn, q_mkIf, q_len, q_mm, q_callF, q_cap, q_eqIf, evs_nil, consO_some, evs_cons, evO_none, mapO_some, evO_some, evParts_nil, consP_some, evParts_cons, hiddenHeap_nil, hiddenHeap_true, hiddenHeap_false, hiddenHeap_all, hpush_nil, ev_tmp, ev_const, fget_cons', fput_nil, fput_cons', fputO_some, fputO_none, elemB_nil, elemB_cons', fkeep_nil, fkeep_cons', args0, slotsL, opdsA, List.cons_append, List.nil_append, List.map_cons, List.map_nil, List.append_nil, Option.toList_some, Option.toList_none, decide_yes, decide_no, b_lss, b_leq, b_gtr, b_geq, b_eql, b_neq, b_add, b_sub, b_mul, b_quo_pos, b_rem_pos, b_seql, b_sneq, wrap64, u_not, u_neg, not_decide', eqB_f, eqB_t, idxNat_in, mm_max, mm_min, convI_int, ext_tuple, lget_zero, lget_succ, loadA_old, aload_old, callP_old, callP_rounds, gcO_some, retE_ret, retE_normal, Value.int.injEq, Value.bool.injEq, Value.string.injEq, true_and, and_true, and_self, retP_ret, retP_normal, retX_some, retW_ret, retW_normal, retWX_some, resOf_nil, resOf_tmp, resOf_cell, tupleOf_one, tupleOf_two, loadO_new, loadB_some, Nat.reduceEqDiff, Nat.reduceLT, Nat.reduceAdd, Nat.reduceBEq, Int.reduceAdd, Int.reduceSub, Int.reduceLT, Int.reduceLE, Int.reduceEq, Int.reduceNeg, ↓reduceIte, if_true, if_false, Bool.false_eq_true, Bool.not_true, Bool.not_false, List.length_cons, List.length_nil, List.length_singleton, reduceCtorEq, Int.toNat_natCast, decide_true, decide_false, Nat.zero_add, Nat.add_zero, Int.add_sub_cancel, eq_self, not_true_eq_false, not_false_eq_true, hget_push_one, hget_push_lt, hget_push_gt, hget_set_ne, storeA_new, storeB_some, one_int, one_bool, one_string, one_slice, one_pointer, lget_map, gc_int, gc_bool, gc_string, gc_nil_int, gc_int_int, gc_string_int, Option.some.injEq, Prod.mk.injEq, c32l0, hr.len, hr.idx, hr.load, vI]) | (refine does_goI_dec (fun _ => ?_) (fun _ => ?_)) | (refine does_goG_dec (fun _ => ?_) (fun _ => ?_)) | (refine does_goI (fun _ => ?_) (fun _ => ?_)) | (refine does_goG (fun _ => ?_) (fun _ => ?_)))
    · rw [placeN_some (by assumption) hj k0 (by omega)]
    · refine ⟨_, ?_, k + 1, rfl, by omega, by simp, fun j hj' => ?_⟩
      · omega
      · rcases Nat.lt_succ_iff_lt_or_eq.1 hj' with h' | rfl
        · exact hj j h'
        · assumption
    · rw [placeN_none k0 (fun j h' => hj j (by omega))]
theorem idsL_ints (n0 : Nat) (l : List Int) : idsL n0 (l.map vI) = [] := idsL_map (fun _ => rfl) l
theorem first_or (l : List Int) (x : Int) : ∀ k : Nat, (∃ i, i < k ∧ l[i]! = x ∧ ∀ j, j < i → l[j]! ≠ x) ∨ ∀ j, j < k → l[j]! ≠ x
  | 0 => Or.inr (by omega)
  | k + 1 => by
    rcases first_or l x k with ⟨i, h1, h2, h3⟩ | h
    · exact Or.inl ⟨i, by omega, h2, h3⟩
    · by_cases hx : l[k]! = x
      · exact Or.inl ⟨k, by omega, hx, h⟩
      · refine Or.inr fun j hj => ?_
        rcases Nat.lt_succ_iff_lt_or_eq.1 hj with h' | rfl
        · exact h j h'
        · exact hx
theorem numbered_p (w : World) (n : Nat) {v : Value} {l : List Int} {h : Heap} {nx p : Nat} (hr : Rd (oldOf w) h vI v l) (hb : bidN v ≤ nx) (hm : l.length ≤ 1000000) :
    (EN w (n + 2)).pcall 23 [v] ⟨h, nx, p⟩ = some (.tuple [newV nx l.length, .int .i64 (distTo l l.length).length].toArray, newB 3 1 l.length ((renTo' l l.length).map vI)) := by
  refine pcall_eq rfl rfl (Nat.le_of_ble_eq_true rfl) ?_
  simp (disch := first | omega | assumption | exact callP_old _ _ _ _ _ | exact one_int _ _ | exact one_bool _ | exact one_string _ | exact one_slice _ _ _ | exact one_pointer _ | exact hget_push_one _ _ _ _ (by omega) | (simp only [List.length_map, List.length_set, List.length_replicate]; omega) | (rw [hget_push_lt _ _ _ _ (by omega)]; first | assumption | exact hget_push_one _ _ _ _ (by omega))) only [runK_nil, runK_seq, runK_seq_exit, runK_seq_ret, runK_block_normal, runK_block_exit, runK_block_ret, go_skip, go_ret, go_exit, go_seq, go_block, go_ops, goO_nil, goO_cons, goV_some, goO_guard, goG_yes, goG_tf, goG_ft, go_cond, goI_true, goI_false, go_draw, goP_nil, goP_cons, goPV_some, goP_guard, goPG_yes, goPG_tf, goPG_ft, does_some, loopP_normal, loopP_exit, loopP_ret, contE_eq, contR_eq, row0, row1, row2, row3, expand_one, replicate_int, replicate_bool, mkSlice_one, idxS_new, idxA_new, len_slice, hget_set_self, Option.map_some, set_int, set_bool, get_set_eq, get_set_ne, op1_some, op2_some, ret1_some, retP_some, retB_some, push_eq, pickX_true, pickX_false, callR_some, callR_none, callX_some, callY_some, slcSX_some, slcX_some, slcAX_some, s_mov, s_pick, s_alloc, s_box, s_build, s_mkRow, s_load, s_nilChk, s_bin, s_eqB, s_eqNil, s_un, s_convI, s_convS, s_b2s, s_mkSlice, s_slcS, s_slc, s_slcA, s_fldA, s_fldV, s_idxS, s_idxA, s_idxStr, s_idxV, s_ext, s_mkFn, s_mkIf, s_len, s_mm, s_cap, s_eqIf, s_callF, s_callV, s_app, s_store, s_copy, q_mov, q_pick, q_alloc, q_box, q_build, q_mkRow, q_load, q_nilChk, q_bin, q_eqB, q_eqNil, q_un, q_convI, q_convS, q_b2s, q_mkSlice, q_slcS, q_slc, q_slcA, q_fldA, q_fldV, q_idxS, q_idxA, q_idxStr, q_idxV, q_ext, q_mkFn, q_mkIf, q_len, q_mm, q_callF, q_cap, q_eqIf, evs_nil, consO_some, evs_cons, evO_none, mapO_some, evO_some, evParts_nil, consP_some, evParts_cons, hiddenHeap_nil, hiddenHeap_true, hiddenHeap_false, hiddenHeap_all, hpush_nil, ev_tmp, ev_const, fget_cons', fput_nil, fput_cons', fputO_some, fputO_none, elemB_nil, elemB_cons', fkeep_nil, fkeep_cons', args0, slotsL, opdsA, List.cons_append, List.nil_append, List.map_cons, List.map_nil, List.append_nil, Option.toList_some, Option.toList_none, decide_yes, decide_no, b_lss, b_leq, b_gtr, b_geq, b_eql, b_neq, b_add, b_sub, b_mul, b_quo_pos, b_rem_pos, b_seql, b_sneq, wrap64, u_not, u_neg, not_decide', eqB_f, eqB_t, idxNat_in, mm_max, mm_min, convI_int, ext_tuple, lget_zero, lget_succ, loadA_old, aload_old, callP_old, callP_rounds, gcO_some, retE_ret, retE_normal, Value.int.injEq, Value.bool.injEq, Value.string.injEq, true_and, and_true, and_self, retP_ret, retP_normal, retX_some, retW_ret, retW_normal, retWX_some, resOf_nil, resOf_tmp, resOf_cell, tupleOf_one, tupleOf_two, loadO_new, loadB_some, Nat.reduceEqDiff, Nat.reduceLT, Nat.reduceAdd, Nat.reduceBEq, Int.reduceAdd, Int.reduceSub, Int.reduceLT, Int.reduceLE, Int.reduceEq, Int.reduceNeg, ↓reduceIte, if_true, if_false, Bool.false_eq_true, Bool.not_true, Bool.not_false, List.length_cons, List.length_nil, List.length_singleton, reduceCtorEq, Int.toNat_natCast, decide_true, decide_false, Nat.zero_add, Nat.add_zero, Int.add_sub_cancel, eq_self, not_true_eq_false, not_false_eq_true, hget_push_one, hget_push_lt, hget_push_gt, hget_set_ne, storeA_new, storeB_some, one_int, one_bool, one_string, one_slice, one_pointer, lget_map, gc_int, gc_bool, gc_string, gc_nil_int, gc_int_int, gc_string_int, Option.some.injEq, Prod.mk.injEq]
  refine does_while (fun m fr t => ∃ (k : Nat) (u : Value) (h' : Heap) (nx' : Nat), m = l.length - k ∧ k ≤ l.length ∧ fr = [(0, v), (4, u), (5, .int .i64 (distTo l k).length), (6, .int .i64 k)] ∧ t = ⟨h', nx', nx⟩ ∧ HX nx h h' ∧ nx ≤ nx' ∧
    Own nx t 3 1 u k ((renTo' l k).map vI) ∧ (k = 0 → u = .slice none 0 0)) (m := l.length) ?_ ?_ ?_
  · exact ⟨0, _, _, _, by omega, by omega, rfl, rfl, HX.refl _ _, Nat.le_refl _, Own.nil, fun _ => rfl⟩
  · simp (disch := first | omega | assumption | exact callP_old _ _ _ _ _ | exact one_int _ _ | exact one_bool _ | exact one_string _ | exact one_slice _ _ _ | exact one_pointer _ | exact hget_push_one _ _ _ _ (by omega) | (simp only [List.length_map, List.length_set, List.length_replicate]; omega) | (rw [hget_push_lt _ _ _ _ (by omega)]; first | assumption | exact hget_push_one _ _ _ _ (by omega))) only [runK_nil, runK_seq, runK_seq_exit, runK_seq_ret, runK_block_normal, runK_block_exit, runK_block_ret, go_skip, go_ret, go_exit, go_seq, go_block, go_ops, goO_nil, goO_cons, goV_some, goO_guard, goG_yes, goG_tf, goG_ft, go_cond, goI_true, goI_false, go_draw, goP_nil, goP_cons, goPV_some, goP_guard, goPG_yes, goPG_tf, goPG_ft, does_some, loopP_normal, loopP_exit, loopP_ret, contE_eq, contR_eq, row0, row1, row2, row3, expand_one, replicate_int, replicate_bool, mkSlice_one, idxS_new, idxA_new, len_slice, hget_set_self, Option.map_some, set_int, set_bool, get_set_eq, get_set_ne, op1_some, op2_some, ret1_some, retP_some, retB_some, push_eq, pickX_true, pickX_false, callR_some, callR_none, callX_some, callY_some, slcSX_some, slcX_some, slcAX_some, s_mov, s_pick, s_alloc, s_box, s_build, s_mkRow, s_load, s_nilChk, s_bin, s_eqB, s_eqNil, s_un, s_convI, s_convS, s_b2s, s_mkSlice, s_slcS, s_slc, s_slcA, s_fldA, s_fldV, s_idxS, s_idxA, s_idxStr, s_idxV, s_ext, s_mkFn, s_mkIf, s_len, s_mm, s_cap, s_eqIf, s_callF, s_callV, s_app, s_store, s_copy, q_mov, q_pick, q_alloc, q_box, q_build, q_mkRow, q_load, q_nilChk, q_bin, q_eqB, q_eqNil, q_un, q_convI, q_convS, q_b2s, q_mkSlice, q_slcS, q_slc, q_slcA, q_fldA, q_fldV, q_idxS, q_idxA, q_idxStr, q_idxV, q_ext, q_mkFn, q_mkIf, q_len, q_mm, q_callF, q_cap, q_eqIf, evs_nil, consO_some, evs_cons, evO_none, mapO_some, evO_some, evParts_nil, consP_some, evParts_cons, hiddenHeap_nil, hiddenHeap_true, hiddenHeap_false, hiddenHeap_all, hpush_nil, ev_tmp, ev_const, fget_cons', fput_nil, fput_cons', fputO_some, fputO_none, elemB_nil, elemB_cons', fkeep_nil, fkeep_cons', args0, slotsL, opdsA, List.cons_append, List.nil_append, List.map_cons, List.map_nil, List.append_nil, Option.toList_some, Option.toList_none, decide_yes, decide_no, b_lss, b_leq, b_gtr, b_geq, b_eql, b_neq, b_add, b_sub, b_mul, b_quo_pos, b_rem_pos, b_seql, b_sneq, wrap64, u_not, u_neg, not_decide', eqB_f, eqB_t, idxNat_in, mm_max, mm_min, convI_int, ext_tuple, lget_zero, lget_succ, loadA_old, aload_old, callP_old, callP_rounds, gcO_some, retE_ret, retE_normal, Value.int.injEq, Value.bool.injEq, Value.string.injEq, true_and, and_true, and_self, retP_ret, retP_normal, retX_some, retW_ret, retW_normal, retWX_some, resOf_nil, resOf_tmp, resOf_cell, tupleOf_one, tupleOf_two, loadO_new, loadB_some, Nat.reduceEqDiff, Nat.reduceLT, Nat.reduceAdd, Nat.reduceBEq, Int.reduceAdd, Int.reduceSub, Int.reduceLT, Int.reduceLE, Int.reduceEq, Int.reduceNeg, ↓reduceIte, if_true, if_false, Bool.false_eq_true, Bool.not_true, Bool.not_false, List.length_cons, List.length_nil, List.length_singleton, reduceCtorEq, Int.toNat_natCast, decide_true, decide_false, Nat.zero_add, Nat.add_zero, Int.add_sub_cancel, eq_self, not_true_eq_false, not_false_eq_true, hget_push_one, hget_push_lt, hget_push_gt, hget_set_ne, storeA_new, storeB_some, one_int, one_bool, one_string, one_slice, one_pointer, lget_map, gc_int, gc_bool, gc_string, gc_nil_int, gc_int_int, gc_string_int, Option.some.injEq, Prod.mk.injEq]
    unfold many; omega
  · rintro m fr t ⟨k, u, h', nx', rfl, hk, rfl, rfl, hx, hn, ho, hu0⟩
    have hr' := hr.hx hx hb
    by_cases hlt : k < l.length
    · have hrn := renTo_succ l k
      have hdl := distTo_le l k
      rcases first_or l l[k]! k with ⟨i, hi, h1, h2⟩ | h2
      · have hp := placeN_some h1 h2 k hi
        have hf := ren_first l i k hi h1 h2
        have hru : Rd (oldOf w) h' vI u (renTo' l k) := Own.rd (by rw [renTo_len]; exact ho)
        have hin : l[k]! ∈ distTo l k := (distTo_mem l _ k).2 ⟨i, hi, h1⟩
        have hds : distTo l (k + 1) = distTo l k := by rw [distTo_succ, if_pos hin]
        have hil : i < (renTo' l k).length := by rw [renTo_len]; exact hi
        repeat' (first | (simp (disch := first | omega | assumption | exact callP_old _ _ _ _ _ | exact one_int _ _ | exact one_bool _ | exact one_string _ | exact one_slice _ _ _ | exact one_pointer _ | exact hget_push_one _ _ _ _ (by omega) | (simp only [List.length_map, List.length_set, List.length_replicate]; omega) | (rw [hget_push_lt _ _ _ _ (by omega)]; first | assumption | exact hget_push_one _ _ _ _ (by omega))) only [runK_nil, runK_seq, runK_seq_exit, runK_seq_ret, runK_block_normal, runK_block_exit, runK_block_ret, go_skip, go_ret, go_exit, go_seq, go_block, go_ops, goO_nil, goO_cons, goV_some, goO_guard, goG_yes, goG_tf, goG_ft, go_cond, goI_true, goI_false, go_draw, goP_nil, goP_cons, goPV_some, goP_guard, goPG_yes, goPG_tf, goPG_ft, does_some, loopP_normal, loopP_exit, loopP_ret, contE_eq, contR_eq, row0, row1, row2, row3, expand_one, replicate_int, replicate_bool, mkSlice_one, idxS_new, idxA_new, len_slice, hget_set_self, Option.map_some, set_int, set_bool, get_set_eq, get_set_ne, op1_some, op2_some, ret1_some, retP_some, retB_some, push_eq, pickX_true, pickX_false, callR_some, callR_none, callX_some, callY_some, slcSX_some, slcX_some, slcAX_some, s_mov, s_pick, s_alloc, s_box, s_build, s_mkRow, s_load, s_nilChk, s_bin, s_eqB, s_eqNil, s_un, s_convI, s_convS, s_b2s, s_mkSlice, s_slcS, s_slc, s_slcA, s_fldA, s_fldV, s_idxS, s_idxA, s_idxStr, s_idxV, s_ext, s_mkFn, s_mkIf, s_len, s_mm, s_cap, s_eqIf, s_callF, s_callV, s_app, s_store, s_copy, q_mov, q_pick, q_alloc, q_box, q_build, q_mkRow, q_load, q_nilChk, q_bin, q_eqB, q_eqNil, q_un, q_convI, q_convS, q_b2s, q_mkSlice, q_slcS, q_slc, q_slcA, q_fldA, q_fldV, q_idxS, q_idxA, q_idxStr, q_idxV, q_ext, q_mkFn, q_mkIf, q_len, q_mm, q_callF, q_cap, q_eqIf, evs_nil, consO_some, evs_cons, evO_none, mapO_some, evO_some, evParts_nil, consP_some, evParts_cons, hiddenHeap_nil, hiddenHeap_true, hiddenHeap_false, hiddenHeap_all, hpush_nil, ev_tmp, ev_const, fget_cons', fput_nil, fput_cons', fputO_some, fputO_none, elemB_nil, elemB_cons', fkeep_nil, fkeep_cons', args0, slotsL, opdsA, List.cons_append, List.nil_append, List.map_cons, List.map_nil, List.append_nil, Option.toList_some, Option.toList_none, decide_yes, decide_no, b_lss, b_leq, b_gtr, b_geq, b_eql, b_neq, b_add, b_sub, b_mul, b_quo_pos, b_rem_pos, b_seql, b_sneq, wrap64, u_not, u_neg, not_decide', eqB_f, eqB_t, idxNat_in, mm_max, mm_min, convI_int, ext_tuple, lget_zero, lget_succ, loadA_old, aload_old, callP_old, callP_rounds, gcO_some, retE_ret, retE_normal, Value.int.injEq, Value.bool.injEq, Value.string.injEq, true_and, and_true, and_self, retP_ret, retP_normal, retX_some, retW_ret, retW_normal, retWX_some, resOf_nil, resOf_tmp, resOf_cell, tupleOf_one, tupleOf_two, loadO_new, loadB_some, Nat.reduceEqDiff, Nat.reduceLT, Nat.reduceAdd, Nat.reduceBEq, Int.reduceAdd, Int.reduceSub, Int.reduceLT, Int.reduceLE, Int.reduceEq, Int.reduceNeg, ↓reduceIte, if_true, if_false, Bool.false_eq_true, Bool.not_true, Bool.not_false, List.length_cons, List.length_nil, List.length_singleton, reduceCtorEq, Int.toNat_natCast, decide_true, decide_false, Nat.zero_add, Nat.add_zero, Int.add_sub_cancel, eq_self, not_true_eq_false, not_false_eq_true, hget_push_one, hget_push_lt, hget_push_gt, hget_set_ne, storeA_new, storeB_some, one_int, one_bool, one_string, one_slice, one_pointer, lget_map, gc_int, gc_bool, gc_string, gc_nil_int, gc_int_int, gc_string_int, Option.some.injEq, Prod.mk.injEq, c23l0, hr'.len, hr'.idx, hr'.load, vI, place_p w _ hr' k hk hm l[k]!, hp, hru.idx, hru.load, ho.appRow]) | (refine does_goI_dec (fun _ => ?_) (fun _ => ?_)) | (refine does_goG_dec (fun _ => ?_) (fun _ => ?_)) | (refine does_goI (fun _ => ?_) (fun _ => ?_)) | (refine does_goG (fun _ => ?_) (fun _ => ?_)))

        refine ⟨_, ?_, k + 1, .slice (some ⟨nx' + 1, 0, some 0⟩) (k + 1) (big + (k + 1)), _, _, rfl, hlt, by simp [hds], rfl, ((hx.push _ hn).delO ho.bid2).push _ (by omega), by omega, ?_, by omega⟩
        · omega
        · rw [show List.map (Value.int .i64) (renTo' l (k + 1)) = List.map (Value.int .i64) (renTo' l k) ++ [.int .i64 (renTo' l k)[i]!] by rw [hrn, hf]; simp]
          exact Own.grown (by simp [renTo_len]) (by omega) (by omega)
      · have hp := placeN_none k h2
        have hin := ren_new l k h2
        have hds : distTo l (k + 1) = distTo l k ++ [l[k]!] := by rw [distTo_succ, if_neg hin]
        repeat' (first | (simp (disch := first | omega | assumption | exact callP_old _ _ _ _ _ | exact one_int _ _ | exact one_bool _ | exact one_string _ | exact one_slice _ _ _ | exact one_pointer _ | exact hget_push_one _ _ _ _ (by omega) | (simp only [List.length_map, List.length_set, List.length_replicate]; omega) | (rw [hget_push_lt _ _ _ _ (by omega)]; first | assumption | exact hget_push_one _ _ _ _ (by omega))) only [runK_nil, runK_seq, runK_seq_exit, runK_seq_ret, runK_block_normal, runK_block_exit, runK_block_ret, go_skip, go_ret, go_exit, go_seq, go_block, go_ops, goO_nil, goO_cons, goV_some, goO_guard, goG_yes, goG_tf, goG_ft, go_cond, goI_true, goI_false, go_draw, goP_nil, goP_cons, goPV_some, goP_guard, goPG_yes, goPG_tf, goPG_ft, does_some, loopP_normal, loopP_exit, loopP_ret, contE_eq, contR_eq, row0, row1, row2, row3, expand_one, replicate_int, replicate_bool, mkSlice_one, idxS_new, idxA_new, len_slice, hget_set_self, Option.map_some, set_int, set_bool, get_set_eq, get_set_ne, op1_some, op2_some, ret1_some, retP_some, retB_some, push_eq, pickX_true, pickX_false, callR_some, callR_none, callX_some, callY_some, slcSX_some, slcX_some, slcAX_some, s_mov, s_pick, s_alloc, s_box, s_build, s_mkRow, s_load, s_nilChk, s_bin, s_eqB, s_eqNil, s_un, s_convI, s_convS, s_b2s, s_mkSlice, s_slcS, s_slc, s_slcA, s_fldA, s_fldV, s_idxS, s_idxA, s_idxStr, s_idxV, s_ext, s_mkFn, s_mkIf, s_len, s_mm, s_cap, s_eqIf, s_callF, s_callV, s_app, s_store, s_copy, q_mov, q_pick, q_alloc, q_box, q_build, q_mkRow, q_load, q_nilChk, q_bin, q_eqB, q_eqNil, q_un, q_convI, q_convS, q_b2s, q_mkSlice, q_slcS, q_slc, q_slcA, q_fldA, q_fldV, q_idxS, q_idxA, q_idxStr, q_idxV, q_ext, q_mkFn, q_mkIf, q_len, q_mm, q_callF, q_cap, q_eqIf, evs_nil, consO_some, evs_cons, evO_none, mapO_some, evO_some, evParts_nil, consP_some, evParts_cons, hiddenHeap_nil, hiddenHeap_true, hiddenHeap_false, hiddenHeap_all, hpush_nil, ev_tmp, ev_const, fget_cons', fput_nil, fput_cons', fputO_some, fputO_none, elemB_nil, elemB_cons', fkeep_nil, fkeep_cons', args0, slotsL, opdsA, List.cons_append, List.nil_append, List.map_cons, List.map_nil, List.append_nil, Option.toList_some, Option.toList_none, decide_yes, decide_no, b_lss, b_leq, b_gtr, b_geq, b_eql, b_neq, b_add, b_sub, b_mul, b_quo_pos, b_rem_pos, b_seql, b_sneq, wrap64, u_not, u_neg, not_decide', eqB_f, eqB_t, idxNat_in, mm_max, mm_min, convI_int, ext_tuple, lget_zero, lget_succ, loadA_old, aload_old, callP_old, callP_rounds, gcO_some, retE_ret, retE_normal, Value.int.injEq, Value.bool.injEq, Value.string.injEq, true_and, and_true, and_self, retP_ret, retP_normal, retX_some, retW_ret, retW_normal, retWX_some, resOf_nil, resOf_tmp, resOf_cell, tupleOf_one, tupleOf_two, loadO_new, loadB_some, Nat.reduceEqDiff, Nat.reduceLT, Nat.reduceAdd, Nat.reduceBEq, Int.reduceAdd, Int.reduceSub, Int.reduceLT, Int.reduceLE, Int.reduceEq, Int.reduceNeg, ↓reduceIte, if_true, if_false, Bool.false_eq_true, Bool.not_true, Bool.not_false, List.length_cons, List.length_nil, List.length_singleton, reduceCtorEq, Int.toNat_natCast, decide_true, decide_false, Nat.zero_add, Nat.add_zero, Int.add_sub_cancel, eq_self, not_true_eq_false, not_false_eq_true, hget_push_one, hget_push_lt, hget_push_gt, hget_set_ne, storeA_new, storeB_some, one_int, one_bool, one_string, one_slice, one_pointer, lget_map, gc_int, gc_bool, gc_string, gc_nil_int, gc_int_int, gc_string_int, Option.some.injEq, Prod.mk.injEq, c23l0, hr'.len, hr'.idx, hr'.load, vI, place_p w _ hr' k hk hm l[k]!, hp, ho.appRow]) | (refine does_goI_dec (fun _ => ?_) (fun _ => ?_)) | (refine does_goG_dec (fun _ => ?_) (fun _ => ?_)) | (refine does_goI (fun _ => ?_) (fun _ => ?_)) | (refine does_goG (fun _ => ?_) (fun _ => ?_)))
        refine ⟨_, ?_, k + 1, .slice (some ⟨nx' + 1, 0, some 0⟩) (k + 1) (big + (k + 1)), _, _, rfl, hlt, by simp [hds], rfl, ((hx.push _ hn).delO ho.bid2).push _ (by omega), by omega, ?_, by omega⟩
        · omega
        · rw [show List.map (Value.int .i64) (renTo' l (k + 1)) = List.map (Value.int .i64) (renTo' l k) ++ [.int .i64 (distTo l k).length] by rw [hrn, List.idxOf_eq_length hin]; simp]
          exact Own.grown (by simp [renTo_len]) (by omega) (by omega)
    · have : k = l.length := by omega
      subst this
      repeat' (first | (simp (disch := first | omega | assumption | exact callP_old _ _ _ _ _ | exact one_int _ _ | exact one_bool _ | exact one_string _ | exact one_slice _ _ _ | exact one_pointer _ | exact hget_push_one _ _ _ _ (by omega) | (simp only [List.length_map, List.length_set, List.length_replicate]; omega) | (rw [hget_push_lt _ _ _ _ (by omega)]; first | assumption | exact hget_push_one _ _ _ _ (by omega))) only [runK_nil, runK_seq, runK_seq_exit, runK_seq_ret, runK_block_normal, runK_block_exit, runK_block_ret, go_skip, go_ret, go_exit, go_seq, go_block, go_ops, goO_nil, goO_cons, goV_some, goO_guard, goG_yes, goG_tf, goG_ft, go_cond, goI_true, goI_false, go_draw, goP_nil, goP_cons, goPV_some, goP_guard, goPG_yes, goPG_tf, goPG_ft, does_some, loopP_normal, loopP_exit, loopP_ret, contE_eq, contR_eq, row0, row1, row2, row3, expand_one, replicate_int, replicate_bool, mkSlice_one, idxS_new, idxA_new, len_slice, hget_set_self, Option.map_some, set_int, set_bool, get_set_eq, get_set_ne, op1_some, op2_some, ret1_some, retP_some, retB_some, push_eq, pickX_true, pickX_false, callR_some, callR_none, callX_some, callY_some, slcSX_some, slcX_some, slcAX_some, s_mov, s_pick, s_alloc, s_box, s_build, s_mkRow, s_load, s_nilChk, s_bin, s_eqB, s_eqNil, s_un, s_convI, s_convS, s_b2s, s_mkSlice, s_slcS, s_slc, s_slcA, s_fldA, s_fldV, s_idxS, s_idxA, s_idxStr, s_idxV, s_ext, s_mkFn, s_mkIf, s_len, s_mm, s_cap, s_eqIf, s_callF, s_callV, s_app, s_store, s_copy, q_mov, q_pick, q_alloc, q_box, q_build, q_mkRow, q_load, q_nilChk, q_bin, q_eqB, q_eqNil, q_un, q_convI, q_convS, q_b2s, q_mkSlice, q_slcS, q_slc, q_slcA, q_fldA, q_fldV, q_idxS, q_idxA, q_idxStr, q_idxV, q_ext, q_mkFn, q_mkIf, q_len, q_mm, q_callF, q_cap, q_eqIf, evs_nil, consO_some, evs_cons, evO_none, mapO_some, evO_some, evParts_nil, consP_some, evParts_cons, hiddenHeap_nil, hiddenHeap_true, hiddenHeap_false, hiddenHeap_all, hpush_nil, ev_tmp, ev_const, fget_cons', fput_nil, fput_cons', fputO_some, fputO_none, elemB_nil, elemB_cons', fkeep_nil, fkeep_cons', args0, slotsL, opdsA, List.cons_append, List.nil_append, List.map_cons, List.map_nil, List.append_nil, Option.toList_some, Option.toList_none, decide_yes, decide_no, b_lss, b_leq, b_gtr, b_geq, b_eql, b_neq, b_add, b_sub, b_mul, b_quo_pos, b_rem_pos, b_seql, b_sneq, wrap64, u_not, u_neg, not_decide', eqB_f, eqB_t, idxNat_in, mm_max, mm_min, convI_int, ext_tuple, lget_zero, lget_succ, loadA_old, aload_old, callP_old, callP_rounds, gcO_some, retE_ret, retE_normal, Value.int.injEq, Value.bool.injEq, Value.string.injEq, true_and, and_true, and_self, retP_ret, retP_normal, retX_some, retW_ret, retW_normal, retWX_some, resOf_nil, resOf_tmp, resOf_cell, tupleOf_one, tupleOf_two, loadO_new, loadB_some, Nat.reduceEqDiff, Nat.reduceLT, Nat.reduceAdd, Nat.reduceBEq, Int.reduceAdd, Int.reduceSub, Int.reduceLT, Int.reduceLE, Int.reduceEq, Int.reduceNeg, ↓reduceIte, if_true, if_false, Bool.false_eq_true, Bool.not_true, Bool.not_false, List.length_cons, List.length_nil, List.length_singleton, reduceCtorEq, Int.toNat_natCast, decide_true, decide_false, Nat.zero_add, Nat.add_zero, Int.add_sub_cancel, eq_self, not_true_eq_false, not_false_eq_true, hget_push_one, hget_push_lt, hget_push_gt, hget_set_ne, storeA_new, storeB_some, one_int, one_bool, one_string, one_slice, one_pointer, lget_map, gc_int, gc_bool, gc_string, gc_nil_int, gc_int_int, gc_string_int, Option.some.injEq, Prod.mk.injEq, c23l0, hr'.len]) | (refine does_goI_dec (fun _ => ?_) (fun _ => ?_)) | (refine does_goG_dec (fun _ => ?_) (fun _ => ?_)) | (refine does_goI (fun _ => ?_) (fun _ => ?_)) | (refine does_goG (fun _ => ?_) (fun _ => ?_)))
      exact ho.gc_int hu0 (idsL_ints _ _) _ _
end Go.Proofs.Ytkjkiodoighgnaa
namespace Go.Proofs.Ytkjkiodoighgnaa
open Go Go.Itp
set_option linter.unusedSimpArgs false
set_option linter.unusedVariables false

theorem rrenum_no (w : World) (n : Nat) {v : Value} {l : List Int} {h : Heap} {nx p : Nat} (hr : Rd (oldOf w) h vI v l) (hm : l.length ≤ 1000000) (hc : ¬ ckS l = 0) :
    (EN w (n + 3)).pcall 7 [v] ⟨h, nx, p⟩ = some (.tuple [.slice none 0 0, .int .i64 (ckS l)].toArray, []) := by
  refine pcall_eq rfl rfl (Nat.le_of_ble_eq_true rfl) ?_
  repeat' (first | (simp (disch := first | omega | assumption | exact callP_old _ _ _ _ _ | exact one_int _ _ | exact one_bool _ | exact one_string _ | exact one_slice _ _ _ | exact one_pointer _ | exact hget_push_one _ _ _ _ (by omega) | (simp only [List.length_map, List.length_set, List.length_replicate]; omega) | (rw [hget_push_lt _ _ _ _ (by omega)]; first | assumption | exact hget_push_one _ _ _ _ (by omega))) only [runK_nil, runK_seq, runK_seq_exit, runK_seq_ret, runK_block_normal, runK_block_exit, runK_block_ret, go_skip, go_ret, go_exit, go_seq, go_block, go_ops, goO_nil, goO_cons, goV_some, goO_guard, goG_yes, goG_tf, goG_ft, go_cond, goI_true, goI_false, go_draw, goP_nil, goP_cons, goPV_some, goP_guard, goPG_yes, goPG_tf, goPG_ft, does_some, loopP_normal, loopP_exit, loopP_ret, contE_eq, contR_eq, row0, row1, row2, row3, expand_one, replicate_int, replicate_bool, mkSlice_one, idxS_new, idxA_new, len_slice, hget_set_self, Option.map_some, set_int, set_bool, get_set_eq, get_set_ne, op1_some, op2_some, ret1_some, retP_some, retB_some, push_eq, pickX_true, pickX_false, callR_some, callR_none, callX_some, callY_some, slcSX_some, slcX_some, slcAX_some, s_mov, s_pick, s_alloc, s_box, s_build, s_mkRow, s_load, s_nilChk, s_bin, s_eqB, s_eqNil, s_un, s_convI, s_convS, s_b2s, s_mkSlice, s_slcS, s_slc, s_slcA, s_fldA, s_fldV, s_idxS, s_idxA, s_idxStr, s_idxV, s_ext, s_mkFn, s_mkIf, s_len, s_mm, s_cap, s_eqIf, s_callF, s_callV, s_app, s_store, s_copy, q_mov, q_pick, q_alloc, q_box, q_build, q_mkRow, q_load, q_nilChk, q_bin, q_eqB, q_eqNil, q_un, q_convI, q_convS, q_b2s, q_mkSlice, q_slcS, q_slc, q_slcA, q_fldA, q_fldV, q_idxS, q_idxA, q_idxStr, q_idxV, q_ext, q_mkFn, q_mkIf, q_len, q_mm, q_callF, q_cap, q_eqIf, evs_nil, consO_some, evs_cons, evO_none, mapO_some, evO_some, evParts_nil, consP_some, evParts_cons, hiddenHeap_nil, hiddenHeap_true, hiddenHeap_false, hiddenHeap_all, hpush_nil, ev_tmp, ev_const, fget_cons', fput_nil, fput_cons', fputO_some, fputO_none, elemB_nil, elemB_cons', fkeep_nil, fkeep_cons', args0, slotsL, opdsA, List.cons_append, List.nil_append, List.map_cons, List.map_nil, List.append_nil, Option.toList_some, Option.toList_none, decide_yes, decide_no, b_lss, b_leq, b_gtr, b_geq, b_eql, b_neq, b_add, b_sub, b_mul, b_quo_pos, b_rem_pos, b_seql, b_sneq, wrap64, u_not, u_neg, not_decide', eqB_f, eqB_t, idxNat_in, mm_max, mm_min, convI_int, ext_tuple, lget_zero, lget_succ, loadA_old, aload_old, callP_old, callP_rounds, gcO_some, retE_ret, retE_normal, Value.int.injEq, Value.bool.injEq, Value.string.injEq, true_and, and_true, and_self, retP_ret, retP_normal, retX_some, retW_ret, retW_normal, retWX_some, resOf_nil, resOf_tmp, resOf_cell, tupleOf_one, tupleOf_two, loadO_new, loadB_some, Nat.reduceEqDiff, Nat.reduceLT, Nat.reduceAdd, Nat.reduceBEq, Int.reduceAdd, Int.reduceSub, Int.reduceLT, Int.reduceLE, Int.reduceEq, Int.reduceNeg, ↓reduceIte, if_true, if_false, Bool.false_eq_true, Bool.not_true, Bool.not_false, List.length_cons, List.length_nil, List.length_singleton, reduceCtorEq, Int.toNat_natCast, decide_true, decide_false, Nat.zero_add, Nat.add_zero, Int.add_sub_cancel, eq_self, not_true_eq_false, not_false_eq_true, hget_push_one, hget_push_lt, hget_push_gt, hget_set_ne, storeA_new, storeB_some, one_int, one_bool, one_string, one_slice, one_pointer, lget_map, gc_int, gc_bool, gc_string, gc_nil_int, gc_int_int, gc_string_int, Option.some.injEq, Prod.mk.injEq, rcheck_p w _ hr hm]) | (refine does_goI_dec (fun _ => ?_) (fun _ => ?_)) | (refine does_goG_dec (fun _ => ?_) (fun _ => ?_)) | (refine does_goI (fun _ => ?_) (fun _ => ?_)) | (refine does_goG (fun _ => ?_) (fun _ => ?_)))
theorem rrenum_ok (w : World) (n : Nat) {v : Value} {l : List Int} {h : Heap} {nx p : Nat} (hr : Rd (oldOf w) h vI v l) (hb : bidN v ≤ nx) (hm : l.length ≤ 1000000) (hc : ckS l = 0) :
    (EN w (n + 3)).pcall 7 [v] ⟨h, nx, p⟩ = some (.tuple [newV nx l.length, .int .i64 0].toArray, newB 3 1 l.length ((renTo' l l.length).map vI)) := by
  refine pcall_eq rfl rfl (Nat.le_of_ble_eq_true rfl) ?_
  repeat' (first | (simp (disch := first | omega | assumption | exact callP_old _ _ _ _ _ | exact one_int _ _ | exact one_bool _ | exact one_string _ | exact one_slice _ _ _ | exact one_pointer _ | exact hget_push_one _ _ _ _ (by omega) | (simp only [List.length_map, List.length_set, List.length_replicate]; omega) | (rw [hget_push_lt _ _ _ _ (by omega)]; first | assumption | exact hget_push_one _ _ _ _ (by omega))) only [runK_nil, runK_seq, runK_seq_exit, runK_seq_ret, runK_block_normal, runK_block_exit, runK_block_ret, go_skip, go_ret, go_exit, go_seq, go_block, go_ops, goO_nil, goO_cons, goV_some, goO_guard, goG_yes, goG_tf, goG_ft, go_cond, goI_true, goI_false, go_draw, goP_nil, goP_cons, goPV_some, goP_guard, goPG_yes, goPG_tf, goPG_ft, does_some, loopP_normal, loopP_exit, loopP_ret, contE_eq, contR_eq, row0, row1, row2, row3, expand_one, replicate_int, replicate_bool, mkSlice_one, idxS_new, idxA_new, len_slice, hget_set_self, Option.map_some, set_int, set_bool, get_set_eq, get_set_ne, op1_some, op2_some, ret1_some, retP_some, retB_some, push_eq, pickX_true, pickX_false, callR_some, callR_none, callX_some, callY_some, slcSX_some, slcX_some, slcAX_some, s_mov, s_pick, s_alloc, s_box, s_build, s_mkRow, s_load, s_nilChk, s_bin, s_eqB, s_eqNil, s_un, s_convI, s_convS, s_b2s, s_mkSlice, s_slcS, s_slc, s_slcA, s_fldA, s_fldV, s_idxS, s_idxA, s_idxStr, s_idxV, s_ext, s_mkFn, s_mkIf, s_len, s_mm, s_cap, s_eqIf, s_callF, s_callV, s_app, s_store, s_copy, q_mov, q_pick, q_alloc, q_box, q_build, q_mkRow, q_load, q_nilChk, q_bin, q_eqB, q_eqNil, q_un, q_convI, q_convS, q_b2s, q_mkSlice, q_slcS, q_slc, q_slcA, q_fldA, q_fldV, q_idxS, q_idxA, q_idxStr, q_idxV, q_ext, q_mkFn, q_mkIf, q_len, q_mm, q_callF, q_cap, q_eqIf, evs_nil, consO_some, evs_cons, evO_none, mapO_some, evO_some, evParts_nil, consP_some, evParts_cons, hiddenHeap_nil, hiddenHeap_true, hiddenHeap_false, hiddenHeap_all, hpush_nil, ev_tmp, ev_const, fget_cons', fput_nil, fput_cons', fputO_some, fputO_none, elemB_nil, elemB_cons', fkeep_nil, fkeep_cons', args0, slotsL, opdsA, List.cons_append, List.nil_append, List.map_cons, List.map_nil, List.append_nil, Option.toList_some, Option.toList_none, decide_yes, decide_no, b_lss, b_leq, b_gtr, b_geq, b_eql, b_neq, b_add, b_sub, b_mul, b_quo_pos, b_rem_pos, b_seql, b_sneq, wrap64, u_not, u_neg, not_decide', eqB_f, eqB_t, idxNat_in, mm_max, mm_min, convI_int, ext_tuple, lget_zero, lget_succ, loadA_old, aload_old, callP_old, callP_rounds, gcO_some, retE_ret, retE_normal, Value.int.injEq, Value.bool.injEq, Value.string.injEq, true_and, and_true, and_self, retP_ret, retP_normal, retX_some, retW_ret, retW_normal, retWX_some, resOf_nil, resOf_tmp, resOf_cell, tupleOf_one, tupleOf_two, loadO_new, loadB_some, Nat.reduceEqDiff, Nat.reduceLT, Nat.reduceAdd, Nat.reduceBEq, Int.reduceAdd, Int.reduceSub, Int.reduceLT, Int.reduceLE, Int.reduceEq, Int.reduceNeg, ↓reduceIte, if_true, if_false, Bool.false_eq_true, Bool.not_true, Bool.not_false, List.length_cons, List.length_nil, List.length_singleton, reduceCtorEq, Int.toNat_natCast, decide_true, decide_false, Nat.zero_add, Nat.add_zero, Int.add_sub_cancel, eq_self, not_true_eq_false, not_false_eq_true, hget_push_one, hget_push_lt, hget_push_gt, hget_set_ne, storeA_new, storeB_some, one_int, one_bool, one_string, one_slice, one_pointer, lget_map, gc_int, gc_bool, gc_string, gc_nil_int, gc_int_int, gc_string_int, Option.some.injEq, Prod.mk.injEq, rcheck_p w _ hr hm, hc, numbered_p w _ hr hb hm]) | (refine does_goI_dec (fun _ => ?_) (fun _ => ?_)) | (refine does_goG_dec (fun _ => ?_) (fun _ => ?_)) | (refine does_goI (fun _ => ?_) (fun _ => ?_)) | (refine does_goG (fun _ => ?_) (fun _ => ?_)))
  exact gc_newV (Nat.le_refl _) (idsL_ints _ _) _ _
theorem ck_len {l : List Int} (h : ckS l = 0) : l.length ≤ 400 := by
  unfold ckS at h; split at h <;> omega
theorem ck_fits {l : List Int} (h : ckS l = 0) : fits l = true := by
  unfold ckS at h
  split at h
  · omega
  · split at h
    · assumption
    · omega

/-! ### the program's renumbering -/
def Tab (l : List Int) (k : Nat) (tab : List Int) : Prop := tab.length = 400 ∧ ∀ x : Nat, x < 400 → tab[x]! = if (x : Int) ∈ distTo l k then ((distTo l k).idxOf (x : Int) : Int) + 1 else 0
theorem tab_zero (l : List Int) : Tab l 0 (List.replicate 400 0) := ⟨List.length_replicate, fun x hx => by rw [get_rep 400 x 0 hx]; simp [distTo]⟩
theorem renum_no (w : World) (n : Nat) {v : Value} {l : List Int} {h : Heap} {nx p : Nat} (hr : Rd (oldOf w) h vI v l) (hb : bidN v ≤ nx) (hm : l.length ≤ 1000000) (hc : ¬ ckS l = 0) :
    (EN w (n + 2)).pcall 6 [v] ⟨h, nx, p⟩ = some (.tuple [.slice none 0 0, .int .i64 (ckS l)].toArray, []) := by
  refine pcall_eq rfl rfl (Nat.le_of_ble_eq_true rfl) ?_
  have h1 := hr.one
  repeat' (first | (simp (disch := first | omega | assumption | exact callP_old _ _ _ _ _ | exact one_int _ _ | exact one_bool _ | exact one_string _ | exact one_slice _ _ _ | exact one_pointer _ | exact hget_push_one _ _ _ _ (by omega) | (simp only [List.length_map, List.length_set, List.length_replicate]; omega) | (rw [hget_push_lt _ _ _ _ (by omega)]; first | assumption | exact hget_push_one _ _ _ _ (by omega))) only [runK_nil, runK_seq, runK_seq_exit, runK_seq_ret, runK_block_normal, runK_block_exit, runK_block_ret, go_skip, go_ret, go_exit, go_seq, go_block, go_ops, goO_nil, goO_cons, goV_some, goO_guard, goG_yes, goG_tf, goG_ft, go_cond, goI_true, goI_false, go_draw, goP_nil, goP_cons, goPV_some, goP_guard, goPG_yes, goPG_tf, goPG_ft, does_some, loopP_normal, loopP_exit, loopP_ret, contE_eq, contR_eq, row0, row1, row2, row3, expand_one, replicate_int, replicate_bool, mkSlice_one, idxS_new, idxA_new, len_slice, hget_set_self, Option.map_some, set_int, set_bool, get_set_eq, get_set_ne, op1_some, op2_some, ret1_some, retP_some, retB_some, push_eq, pickX_true, pickX_false, callR_some, callR_none, callX_some, callY_some, slcSX_some, slcX_some, slcAX_some, s_mov, s_pick, s_alloc, s_box, s_build, s_mkRow, s_load, s_nilChk, s_bin, s_eqB, s_eqNil, s_un, s_convI, s_convS, s_b2s, s_mkSlice, s_slcS, s_slc, s_slcA, s_fldA, s_fldV, s_idxS, s_idxA, s_idxStr, s_idxV, s_ext, s_mkFn, s_mkIf, s_len, s_mm, s_cap, s_eqIf, s_callF, s_callV, s_app, s_store, s_copy, q_mov, q_pick, q_alloc, q_box, q_build, q_mkRow, q_load, q_nilChk, q_bin, q_eqB, q_eqNil, q_un, q_convI, q_convS, q_b2s, q_mkSlice, q_slcS, q_slc, q_slcA, q_fldA, q_fldV, q_idxS, q_idxA, q_idxStr, q_idxV, q_ext, q_mkFn, q_mkIf, q_len, q_mm, q_callF, q_cap, q_eqIf, evs_nil, consO_some, evs_cons, evO_none, mapO_some, evO_some, evParts_nil, consP_some, evParts_cons, hiddenHeap_nil, hiddenHeap_true, hiddenHeap_false, hiddenHeap_all, hpush_nil, ev_tmp, ev_const, fget_cons', fput_nil, fput_cons', fputO_some, fputO_none, elemB_nil, elemB_cons', fkeep_nil, fkeep_cons', args0, slotsL, opdsA, List.cons_append, List.nil_append, List.map_cons, List.map_nil, List.append_nil, Option.toList_some, Option.toList_none, decide_yes, decide_no, b_lss, b_leq, b_gtr, b_geq, b_eql, b_neq, b_add, b_sub, b_mul, b_quo_pos, b_rem_pos, b_seql, b_sneq, wrap64, u_not, u_neg, not_decide', eqB_f, eqB_t, idxNat_in, mm_max, mm_min, convI_int, ext_tuple, lget_zero, lget_succ, loadA_old, aload_old, callP_old, callP_rounds, gcO_some, retE_ret, retE_normal, Value.int.injEq, Value.bool.injEq, Value.string.injEq, true_and, and_true, and_self, retP_ret, retP_normal, retX_some, retW_ret, retW_normal, retWX_some, resOf_nil, resOf_tmp, resOf_cell, tupleOf_one, tupleOf_two, loadO_new, loadB_some, Nat.reduceEqDiff, Nat.reduceLT, Nat.reduceAdd, Nat.reduceBEq, Int.reduceAdd, Int.reduceSub, Int.reduceLT, Int.reduceLE, Int.reduceEq, Int.reduceNeg, ↓reduceIte, if_true, if_false, Bool.false_eq_true, Bool.not_true, Bool.not_false, List.length_cons, List.length_nil, List.length_singleton, reduceCtorEq, Int.toNat_natCast, decide_true, decide_false, Nat.zero_add, Nat.add_zero, Int.add_sub_cancel, eq_self, not_true_eq_false, not_false_eq_true, hget_push_one, hget_push_lt, hget_push_gt, hget_set_ne, storeA_new, storeB_some, one_int, one_bool, one_string, one_slice, one_pointer, lget_map, gc_int, gc_bool, gc_string, gc_nil_int, gc_int_int, gc_string_int, Option.some.injEq, Prod.mk.injEq, check1_p w _ (hget_push_one _ _ _ _ rfl) (hr.push _ hb) hm]) | (refine does_goI_dec (fun _ => ?_) (fun _ => ?_)) | (refine does_goG_dec (fun _ => ?_) (fun _ => ?_)) | (refine does_goI (fun _ => ?_) (fun _ => ?_)) | (refine does_goG (fun _ => ?_) (fun _ => ?_)))
theorem renum_ok (w : World) (n : Nat) {v : Value} {l : List Int} {h : Heap} {nx p : Nat} (hr : Rd (oldOf w) h vI v l) (hb : bidN v ≤ nx) (hm : l.length ≤ 1000000) (hc : ckS l = 0) :
    (EN w (n + 2)).pcall 6 [v] ⟨h, nx, p⟩ = some (.tuple [.slice (some ⟨nx, 0, some 0⟩) l.length l.length, .int .i64 0].toArray, [⟨(renTo' l l.length).map vI, 1, false, 3⟩]) := by
  refine pcall_eq rfl rfl (Nat.le_of_ble_eq_true rfl) ?_
  have h1 := hr.one
  have hl4 := ck_len hc
  have hf := ck_fits hc
  repeat' (first | (simp (disch := first | omega | assumption | exact callP_old _ _ _ _ _ | exact one_int _ _ | exact one_bool _ | exact one_string _ | exact one_slice _ _ _ | exact one_pointer _ | exact hget_push_one _ _ _ _ (by omega) | (simp only [List.length_map, List.length_set, List.length_replicate]; omega) | (rw [hget_push_lt _ _ _ _ (by omega)]; first | assumption | exact hget_push_one _ _ _ _ (by omega))) only [runK_nil, runK_seq, runK_seq_exit, runK_seq_ret, runK_block_normal, runK_block_exit, runK_block_ret, go_skip, go_ret, go_exit, go_seq, go_block, go_ops, goO_nil, goO_cons, goV_some, goO_guard, goG_yes, goG_tf, goG_ft, go_cond, goI_true, goI_false, go_draw, goP_nil, goP_cons, goPV_some, goP_guard, goPG_yes, goPG_tf, goPG_ft, does_some, loopP_normal, loopP_exit, loopP_ret, contE_eq, contR_eq, row0, row1, row2, row3, expand_one, replicate_int, replicate_bool, mkSlice_one, idxS_new, idxA_new, len_slice, hget_set_self, Option.map_some, set_int, set_bool, get_set_eq, get_set_ne, op1_some, op2_some, ret1_some, retP_some, retB_some, push_eq, pickX_true, pickX_false, callR_some, callR_none, callX_some, callY_some, slcSX_some, slcX_some, slcAX_some, s_mov, s_pick, s_alloc, s_box, s_build, s_mkRow, s_load, s_nilChk, s_bin, s_eqB, s_eqNil, s_un, s_convI, s_convS, s_b2s, s_mkSlice, s_slcS, s_slc, s_slcA, s_fldA, s_fldV, s_idxS, s_idxA, s_idxStr, s_idxV, s_ext, s_mkFn, s_mkIf, s_len, s_mm, s_cap, s_eqIf, s_callF, s_callV, s_app, s_store, s_copy, q_mov, q_pick, q_alloc, q_box, q_build, q_mkRow, q_load, q_nilChk, q_bin, q_eqB, q_eqNil, q_un, q_convI, q_convS, q_b2s, q_mkSlice, q_slcS, q_slc, q_slcA, q_fldA, q_fldV, q_idxS, q_idxA, q_idxStr, q_idxV, q_ext, q_mkFn, q_mkIf, q_len, q_mm, q_callF, q_cap, q_eqIf, evs_nil, consO_some, evs_cons, evO_none, mapO_some, evO_some, evParts_nil, consP_some, evParts_cons, hiddenHeap_nil, hiddenHeap_true, hiddenHeap_false, hiddenHeap_all, hpush_nil, ev_tmp, ev_const, fget_cons', fput_nil, fput_cons', fputO_some, fputO_none, elemB_nil, elemB_cons', fkeep_nil, fkeep_cons', args0, slotsL, opdsA, List.cons_append, List.nil_append, List.map_cons, List.map_nil, List.append_nil, Option.toList_some, Option.toList_none, decide_yes, decide_no, b_lss, b_leq, b_gtr, b_geq, b_eql, b_neq, b_add, b_sub, b_mul, b_quo_pos, b_rem_pos, b_seql, b_sneq, wrap64, u_not, u_neg, not_decide', eqB_f, eqB_t, idxNat_in, mm_max, mm_min, convI_int, ext_tuple, lget_zero, lget_succ, loadA_old, aload_old, callP_old, callP_rounds, gcO_some, retE_ret, retE_normal, Value.int.injEq, Value.bool.injEq, Value.string.injEq, true_and, and_true, and_self, retP_ret, retP_normal, retX_some, retW_ret, retW_normal, retWX_some, resOf_nil, resOf_tmp, resOf_cell, tupleOf_one, tupleOf_two, loadO_new, loadB_some, Nat.reduceEqDiff, Nat.reduceLT, Nat.reduceAdd, Nat.reduceBEq, Int.reduceAdd, Int.reduceSub, Int.reduceLT, Int.reduceLE, Int.reduceEq, Int.reduceNeg, ↓reduceIte, if_true, if_false, Bool.false_eq_true, Bool.not_true, Bool.not_false, List.length_cons, List.length_nil, List.length_singleton, reduceCtorEq, Int.toNat_natCast, decide_true, decide_false, Nat.zero_add, Nat.add_zero, Int.add_sub_cancel, eq_self, not_true_eq_false, not_false_eq_true, hget_push_one, hget_push_lt, hget_push_gt, hget_set_ne, storeA_new, storeB_some, one_int, one_bool, one_string, one_slice, one_pointer, lget_map, gc_int, gc_bool, gc_string, gc_nil_int, gc_int_int, gc_string_int, Option.some.injEq, Prod.mk.injEq, check1_p w _ (hget_push_one _ _ _ _ rfl) (hr.push _ hb) hm, hc, hr.len]) | (refine does_goI_dec (fun _ => ?_) (fun _ => ?_)) | (refine does_goG_dec (fun _ => ?_) (fun _ => ?_)) | (refine does_goI (fun _ => ?_) (fun _ => ?_)) | (refine does_goG (fun _ => ?_) (fun _ => ?_)))
  refine does_while (fun m fr t => ∃ (k : Nat) (h' : Heap) (tab out : List Int), m = l.length - k ∧ k ≤ l.length ∧
    fr = [(5, .pointer (some ⟨nx + 1, 0, some 0⟩)), (6, .int .i64 (distTo l k).length), (7, .slice (some ⟨nx + 1 + 1, 0, some 0⟩) l.length l.length), (19, v), (20, .int .i64 l.length), (21, .int .i64 k)] ∧
    t = ⟨h', nx + 1 + 1 + 1, nx⟩ ∧ HX nx h h' ∧ hget h' (nx + 1) = some ⟨tab.map (.int .i64), 1, false, 38⟩ ∧ hget h' (nx + 1 + 1) = some ⟨out.map (.int .i64), 1, false, 3⟩ ∧ Tab l k tab ∧ out.length = l.length ∧ ∀ j, j < k → out[j]! = (renTo' l l.length)[j]!) (m := l.length) ?_ ?_ ?_
  · refine ⟨0, _, List.replicate 400 0, List.replicate l.length 0, by omega, by omega, rfl, rfl, ((HX.refl _ _).push _ (by omega)).push _ (by omega) |>.push _ (by omega), ?_, ?_, tab_zero l, ?_, by omega⟩
    · rw [hget_push_lt _ _ _ _ (by omega), hget_push_one _ _ _ _ rfl]
    · exact hget_push_one _ _ _ _ rfl
    · simp
  · simp (disch := first | omega | assumption | exact callP_old _ _ _ _ _ | exact one_int _ _ | exact one_bool _ | exact one_string _ | exact one_slice _ _ _ | exact one_pointer _ | exact hget_push_one _ _ _ _ (by omega) | (simp only [List.length_map, List.length_set, List.length_replicate]; omega) | (rw [hget_push_lt _ _ _ _ (by omega)]; first | assumption | exact hget_push_one _ _ _ _ (by omega))) only [runK_nil, runK_seq, runK_seq_exit, runK_seq_ret, runK_block_normal, runK_block_exit, runK_block_ret, go_skip, go_ret, go_exit, go_seq, go_block, go_ops, goO_nil, goO_cons, goV_some, goO_guard, goG_yes, goG_tf, goG_ft, go_cond, goI_true, goI_false, go_draw, goP_nil, goP_cons, goPV_some, goP_guard, goPG_yes, goPG_tf, goPG_ft, does_some, loopP_normal, loopP_exit, loopP_ret, contE_eq, contR_eq, row0, row1, row2, row3, expand_one, replicate_int, replicate_bool, mkSlice_one, idxS_new, idxA_new, len_slice, hget_set_self, Option.map_some, set_int, set_bool, get_set_eq, get_set_ne, op1_some, op2_some, ret1_some, retP_some, retB_some, push_eq, pickX_true, pickX_false, callR_some, callR_none, callX_some, callY_some, slcSX_some, slcX_some, slcAX_some, s_mov, s_pick, s_alloc, s_box, s_build, s_mkRow, s_load, s_nilChk, s_bin, s_eqB, s_eqNil, s_un, s_convI, s_convS, s_b2s, s_mkSlice, s_slcS, s_slc, s_slcA, s_fldA, s_fldV, s_idxS, s_idxA, s_idxStr, s_idxV, s_ext, s_mkFn, s_mkIf, s_len, s_mm, s_cap, s_eqIf, s_callF, s_callV, s_app, s_store, s_copy, q_mov, q_pick, q_alloc, q_box, q_build, q_mkRow, q_load, q_nilChk, q_bin, q_eqB, q_eqNil, q_un, q_convI, q_convS, q_b2s, q_mkSlice, q_slcS, q_slc, q_slcA, q_fldA, q_fldV, q_idxS, q_idxA, q_idxStr, q_idxV, q_ext, q_mkFn, q_mkIf, q_len, q_mm, q_callF, q_cap, q_eqIf, evs_nil, consO_some, evs_cons, evO_none, mapO_some, evO_some, evParts_nil, consP_some, evParts_cons, hiddenHeap_nil, hiddenHeap_true, hiddenHeap_false, hiddenHeap_all, hpush_nil, ev_tmp, ev_const, fget_cons', fput_nil, fput_cons', fputO_some, fputO_none, elemB_nil, elemB_cons', fkeep_nil, fkeep_cons', args0, slotsL, opdsA, List.cons_append, List.nil_append, List.map_cons, List.map_nil, List.append_nil, Option.toList_some, Option.toList_none, decide_yes, decide_no, b_lss, b_leq, b_gtr, b_geq, b_eql, b_neq, b_add, b_sub, b_mul, b_quo_pos, b_rem_pos, b_seql, b_sneq, wrap64, u_not, u_neg, not_decide', eqB_f, eqB_t, idxNat_in, mm_max, mm_min, convI_int, ext_tuple, lget_zero, lget_succ, loadA_old, aload_old, callP_old, callP_rounds, gcO_some, retE_ret, retE_normal, Value.int.injEq, Value.bool.injEq, Value.string.injEq, true_and, and_true, and_self, retP_ret, retP_normal, retX_some, retW_ret, retW_normal, retWX_some, resOf_nil, resOf_tmp, resOf_cell, tupleOf_one, tupleOf_two, loadO_new, loadB_some, Nat.reduceEqDiff, Nat.reduceLT, Nat.reduceAdd, Nat.reduceBEq, Int.reduceAdd, Int.reduceSub, Int.reduceLT, Int.reduceLE, Int.reduceEq, Int.reduceNeg, ↓reduceIte, if_true, if_false, Bool.false_eq_true, Bool.not_true, Bool.not_false, List.length_cons, List.length_nil, List.length_singleton, reduceCtorEq, Int.toNat_natCast, decide_true, decide_false, Nat.zero_add, Nat.add_zero, Int.add_sub_cancel, eq_self, not_true_eq_false, not_false_eq_true, hget_push_one, hget_push_lt, hget_push_gt, hget_set_ne, storeA_new, storeB_some, one_int, one_bool, one_string, one_slice, one_pointer, lget_map, gc_int, gc_bool, gc_string, gc_nil_int, gc_int_int, gc_string_int, Option.some.injEq, Prod.mk.injEq]
    unfold many; omega
  · rintro m fr t ⟨k, h', tab, out, rfl, hk, rfl, rfl, hx, ht, ho, htab, hol, hj⟩
    have hr' := hr.hx hx hb
    by_cases hlt : k < l.length
    · obtain ⟨hx0, hx4⟩ := fits_at hf hlt
      obtain ⟨htl, htab⟩ := htab
      have hxx : ((l[k]!.toNat : Nat) : Int) = l[k]! := by omega
      have hth := htab l[k]!.toNat (by omega)
      have hll := distTo_le l k
      rw [hxx] at hth
      have hlast : (renTo' l l.length)[k]! = ((distTo l k).idxOf l[k]! : Int) := renTo_get l k _ hlt
      by_cases hin : l[k]! ∈ distTo l k
      · rw [if_pos hin] at hth
        have hne : ¬ tab[l[k]!.toNat]! = 0 := by omega
        have hil := List.idxOf_le_length (a := l[k]!) (l := distTo l k)
        repeat' (first | (simp (disch := first | omega | assumption | exact callP_old _ _ _ _ _ | exact one_int _ _ | exact one_bool _ | exact one_string _ | exact one_slice _ _ _ | exact one_pointer _ | exact hget_push_one _ _ _ _ (by omega) | (simp only [List.length_map, List.length_set, List.length_replicate]; omega) | (rw [hget_push_lt _ _ _ _ (by omega)]; first | assumption | exact hget_push_one _ _ _ _ (by omega))) only [runK_nil, runK_seq, runK_seq_exit, runK_seq_ret, runK_block_normal, runK_block_exit, runK_block_ret, go_skip, go_ret, go_exit, go_seq, go_block, go_ops, goO_nil, goO_cons, goV_some, goO_guard, goG_yes, goG_tf, goG_ft, go_cond, goI_true, goI_false, go_draw, goP_nil, goP_cons, goPV_some, goP_guard, goPG_yes, goPG_tf, goPG_ft, does_some, loopP_normal, loopP_exit, loopP_ret, contE_eq, contR_eq, row0, row1, row2, row3, expand_one, replicate_int, replicate_bool, mkSlice_one, idxS_new, idxA_new, len_slice, hget_set_self, Option.map_some, set_int, set_bool, get_set_eq, get_set_ne, op1_some, op2_some, ret1_some, retP_some, retB_some, push_eq, pickX_true, pickX_false, callR_some, callR_none, callX_some, callY_some, slcSX_some, slcX_some, slcAX_some, s_mov, s_pick, s_alloc, s_box, s_build, s_mkRow, s_load, s_nilChk, s_bin, s_eqB, s_eqNil, s_un, s_convI, s_convS, s_b2s, s_mkSlice, s_slcS, s_slc, s_slcA, s_fldA, s_fldV, s_idxS, s_idxA, s_idxStr, s_idxV, s_ext, s_mkFn, s_mkIf, s_len, s_mm, s_cap, s_eqIf, s_callF, s_callV, s_app, s_store, s_copy, q_mov, q_pick, q_alloc, q_box, q_build, q_mkRow, q_load, q_nilChk, q_bin, q_eqB, q_eqNil, q_un, q_convI, q_convS, q_b2s, q_mkSlice, q_slcS, q_slc, q_slcA, q_fldA, q_fldV, q_idxS, q_idxA, q_idxStr, q_idxV, q_ext, q_mkFn, q_mkIf, q_len, q_mm, q_callF, q_cap, q_eqIf, evs_nil, consO_some, evs_cons, evO_none, mapO_some, evO_some, evParts_nil, consP_some, evParts_cons, hiddenHeap_nil, hiddenHeap_true, hiddenHeap_false, hiddenHeap_all, hpush_nil, ev_tmp, ev_const, fget_cons', fput_nil, fput_cons', fputO_some, fputO_none, elemB_nil, elemB_cons', fkeep_nil, fkeep_cons', args0, slotsL, opdsA, List.cons_append, List.nil_append, List.map_cons, List.map_nil, List.append_nil, Option.toList_some, Option.toList_none, decide_yes, decide_no, b_lss, b_leq, b_gtr, b_geq, b_eql, b_neq, b_add, b_sub, b_mul, b_quo_pos, b_rem_pos, b_seql, b_sneq, wrap64, u_not, u_neg, not_decide', eqB_f, eqB_t, idxNat_in, mm_max, mm_min, convI_int, ext_tuple, lget_zero, lget_succ, loadA_old, aload_old, callP_old, callP_rounds, gcO_some, retE_ret, retE_normal, Value.int.injEq, Value.bool.injEq, Value.string.injEq, true_and, and_true, and_self, retP_ret, retP_normal, retX_some, retW_ret, retW_normal, retWX_some, resOf_nil, resOf_tmp, resOf_cell, tupleOf_one, tupleOf_two, loadO_new, loadB_some, Nat.reduceEqDiff, Nat.reduceLT, Nat.reduceAdd, Nat.reduceBEq, Int.reduceAdd, Int.reduceSub, Int.reduceLT, Int.reduceLE, Int.reduceEq, Int.reduceNeg, ↓reduceIte, if_true, if_false, Bool.false_eq_true, Bool.not_true, Bool.not_false, List.length_cons, List.length_nil, List.length_singleton, reduceCtorEq, Int.toNat_natCast, decide_true, decide_false, Nat.zero_add, Nat.add_zero, Int.add_sub_cancel, eq_self, not_true_eq_false, not_false_eq_true, hget_push_one, hget_push_lt, hget_push_gt, hget_set_ne, storeA_new, storeB_some, one_int, one_bool, one_string, one_slice, one_pointer, lget_map, gc_int, gc_bool, gc_string, gc_nil_int, gc_int_int, gc_string_int, Option.some.injEq, Prod.mk.injEq, c6l0, hr'.idx, hr'.load, vI, ht, ho, hth]) | (refine does_goI_dec (fun _ => ?_) (fun _ => ?_)) | (refine does_goG_dec (fun _ => ?_) (fun _ => ?_)) | (refine does_goI (fun _ => ?_) (fun _ => ?_)) | (refine does_goG (fun _ => ?_) (fun _ => ?_)))
        refine ⟨_, ?_, k + 1, _, tab, out.set k ↑(List.idxOf l[k]! (distTo l k)), rfl, hlt, ?_, rfl, hx.set _ (by omega), ?_, ?_, ⟨htl, ?_⟩, ?_, ?_⟩
        · omega
        · rw [distTo_succ, if_pos hin]; simp
        · rw [hget_set_ne _ _ _ _ (by omega)]; exact ht
        · rw [hget_set_self, ho]; rfl
        · rw [distTo_succ, if_pos hin]; exact htab
        · simp [hol]
        · intro j hj'
          by_cases hjk : j = k
          · subst hjk; rw [get_set_eq _ _ _ (by omega), hlast]
          · rw [get_set_ne _ _ _ _ (by omega)]; exact hj j (by omega)
      · rw [if_neg hin] at hth
        have hil := List.idxOf_eq_length hin
        repeat' (first | (simp (disch := first | omega | assumption | exact callP_old _ _ _ _ _ | exact one_int _ _ | exact one_bool _ | exact one_string _ | exact one_slice _ _ _ | exact one_pointer _ | exact hget_push_one _ _ _ _ (by omega) | (simp only [List.length_map, List.length_set, List.length_replicate]; omega) | (rw [hget_push_lt _ _ _ _ (by omega)]; first | assumption | exact hget_push_one _ _ _ _ (by omega))) only [runK_nil, runK_seq, runK_seq_exit, runK_seq_ret, runK_block_normal, runK_block_exit, runK_block_ret, go_skip, go_ret, go_exit, go_seq, go_block, go_ops, goO_nil, goO_cons, goV_some, goO_guard, goG_yes, goG_tf, goG_ft, go_cond, goI_true, goI_false, go_draw, goP_nil, goP_cons, goPV_some, goP_guard, goPG_yes, goPG_tf, goPG_ft, does_some, loopP_normal, loopP_exit, loopP_ret, contE_eq, contR_eq, row0, row1, row2, row3, expand_one, replicate_int, replicate_bool, mkSlice_one, idxS_new, idxA_new, len_slice, hget_set_self, Option.map_some, set_int, set_bool, get_set_eq, get_set_ne, op1_some, op2_some, ret1_some, retP_some, retB_some, push_eq, pickX_true, pickX_false, callR_some, callR_none, callX_some, callY_some, slcSX_some, slcX_some, slcAX_some, s_mov, s_pick, s_alloc, s_box, s_build, s_mkRow, s_load, s_nilChk, s_bin, s_eqB, s_eqNil, s_un, s_convI, s_convS, s_b2s, s_mkSlice, s_slcS, s_slc, s_slcA, s_fldA, s_fldV, s_idxS, s_idxA, s_idxStr, s_idxV, s_ext, s_mkFn, s_mkIf, s_len, s_mm, s_cap, s_eqIf, s_callF, s_callV, s_app, s_store, s_copy, q_mov, q_pick, q_alloc, q_box, q_build, q_mkRow, q_load, q_nilChk, q_bin, q_eqB, q_eqNil, q_un, q_convI, q_convS, q_b2s, q_mkSlice, q_slcS, q_slc, q_slcA, q_fldA, q_fldV, q_idxS, q_idxA, q_idxStr, q_idxV, q_ext, q_mkFn, q_mkIf, q_len, q_mm, q_callF, q_cap, q_eqIf, evs_nil, consO_some, evs_cons, evO_none, mapO_some, evO_some, evParts_nil, consP_some, evParts_cons, hiddenHeap_nil, hiddenHeap_true, hiddenHeap_false, hiddenHeap_all, hpush_nil, ev_tmp, ev_const, fget_cons', fput_nil, fput_cons', fputO_some, fputO_none, elemB_nil, elemB_cons', fkeep_nil, fkeep_cons', args0, slotsL, opdsA, List.cons_append, List.nil_append, List.map_cons, List.map_nil, List.append_nil, Option.toList_some, Option.toList_none, decide_yes, decide_no, b_lss, b_leq, b_gtr, b_geq, b_eql, b_neq, b_add, b_sub, b_mul, b_quo_pos, b_rem_pos, b_seql, b_sneq, wrap64, u_not, u_neg, not_decide', eqB_f, eqB_t, idxNat_in, mm_max, mm_min, convI_int, ext_tuple, lget_zero, lget_succ, loadA_old, aload_old, callP_old, callP_rounds, gcO_some, retE_ret, retE_normal, Value.int.injEq, Value.bool.injEq, Value.string.injEq, true_and, and_true, and_self, retP_ret, retP_normal, retX_some, retW_ret, retW_normal, retWX_some, resOf_nil, resOf_tmp, resOf_cell, tupleOf_one, tupleOf_two, loadO_new, loadB_some, Nat.reduceEqDiff, Nat.reduceLT, Nat.reduceAdd, Nat.reduceBEq, Int.reduceAdd, Int.reduceSub, Int.reduceLT, Int.reduceLE, Int.reduceEq, Int.reduceNeg, ↓reduceIte, if_true, if_false, Bool.false_eq_true, Bool.not_true, Bool.not_false, List.length_cons, List.length_nil, List.length_singleton, reduceCtorEq, Int.toNat_natCast, decide_true, decide_false, Nat.zero_add, Nat.add_zero, Int.add_sub_cancel, eq_self, not_true_eq_false, not_false_eq_true, hget_push_one, hget_push_lt, hget_push_gt, hget_set_ne, storeA_new, storeB_some, one_int, one_bool, one_string, one_slice, one_pointer, lget_map, gc_int, gc_bool, gc_string, gc_nil_int, gc_int_int, gc_string_int, Option.some.injEq, Prod.mk.injEq, c6l0, hr'.idx, hr'.load, vI, ht, ho, hth]) | (refine does_goI_dec (fun _ => ?_) (fun _ => ?_)) | (refine does_goG_dec (fun _ => ?_) (fun _ => ?_)) | (refine does_goI (fun _ => ?_) (fun _ => ?_)) | (refine does_goG (fun _ => ?_) (fun _ => ?_)))
        refine ⟨_, ?_, k + 1, _, tab.set l[k]!.toNat ((distTo l k).length + 1), out.set k ↑(distTo l k).length, rfl, hlt, ?_, rfl, (hx.set _ (by omega)).set _ (by omega), ?_, ?_, ⟨?_, ?_⟩, ?_, ?_⟩
        · omega
        · rw [distTo_succ, if_neg hin]; simp
        · rw [hget_set_ne _ _ _ _ (by omega), hget_set_self, ht]; rfl
        · rw [hget_set_self, hget_set_ne _ _ _ _ (by omega), ho]; rfl
        · simp [htl]
        · intro x hx
          rw [distTo_succ, if_neg hin]
          by_cases hxk : (x : Int) = l[k]!
          · have : x = l[k]!.toNat := by omega
            subst this
            rw [get_set_eq _ _ _ (by omega), hxx, if_pos (by simp), List.idxOf_append, if_neg hin]
            simp
          · rw [get_set_ne _ _ _ _ (by omega), htab x hx]
            by_cases hm' : (x : Int) ∈ distTo l k
            · rw [if_pos hm', if_pos (by simp [hm']), List.idxOf_append, if_pos hm']
            · rw [if_neg hm', if_neg (by rw [List.mem_append, List.mem_singleton]; exact fun h => h.elim hm' hxk)]
        · simp [hol]
        · intro j hj'
          by_cases hjk : j = k
          · subst hjk; rw [get_set_eq _ _ _ (by omega), hlast, hil]
          · rw [get_set_ne _ _ _ _ (by omega)]; exact hj j (by omega)
    · have : k = l.length := by omega
      subst this
      have : out = renTo' l l.length := list_ext (by rw [hol, renTo_len]) (fun j h => hj j (by omega))
      subst this
      repeat' (first | (simp (disch := first | omega | assumption | exact callP_old _ _ _ _ _ | exact one_int _ _ | exact one_bool _ | exact one_string _ | exact one_slice _ _ _ | exact one_pointer _ | exact hget_push_one _ _ _ _ (by omega) | (simp only [List.length_map, List.length_set, List.length_replicate]; omega) | (rw [hget_push_lt _ _ _ _ (by omega)]; first | assumption | exact hget_push_one _ _ _ _ (by omega))) only [runK_nil, runK_seq, runK_seq_exit, runK_seq_ret, runK_block_normal, runK_block_exit, runK_block_ret, go_skip, go_ret, go_exit, go_seq, go_block, go_ops, goO_nil, goO_cons, goV_some, goO_guard, goG_yes, goG_tf, goG_ft, go_cond, goI_true, goI_false, go_draw, goP_nil, goP_cons, goPV_some, goP_guard, goPG_yes, goPG_tf, goPG_ft, does_some, loopP_normal, loopP_exit, loopP_ret, contE_eq, contR_eq, row0, row1, row2, row3, expand_one, replicate_int, replicate_bool, mkSlice_one, idxS_new, idxA_new, len_slice, hget_set_self, Option.map_some, set_int, set_bool, get_set_eq, get_set_ne, op1_some, op2_some, ret1_some, retP_some, retB_some, push_eq, pickX_true, pickX_false, callR_some, callR_none, callX_some, callY_some, slcSX_some, slcX_some, slcAX_some, s_mov, s_pick, s_alloc, s_box, s_build, s_mkRow, s_load, s_nilChk, s_bin, s_eqB, s_eqNil, s_un, s_convI, s_convS, s_b2s, s_mkSlice, s_slcS, s_slc, s_slcA, s_fldA, s_fldV, s_idxS, s_idxA, s_idxStr, s_idxV, s_ext, s_mkFn, s_mkIf, s_len, s_mm, s_cap, s_eqIf, s_callF, s_callV, s_app, s_store, s_copy, q_mov, q_pick, q_alloc, q_box, q_build, q_mkRow, q_load, q_nilChk, q_bin, q_eqB, q_eqNil, q_un, q_convI, q_convS, q_b2s, q_mkSlice, q_slcS, q_slc, q_slcA, q_fldA, q_fldV, q_idxS, q_idxA, q_idxStr, q_idxV, q_ext, q_mkFn, q_mkIf, q_len, q_mm, q_callF, q_cap, q_eqIf, evs_nil, consO_some, evs_cons, evO_none, mapO_some, evO_some, evParts_nil, consP_some, evParts_cons, hiddenHeap_nil, hiddenHeap_true, hiddenHeap_false, hiddenHeap_all, hpush_nil, ev_tmp, ev_const, fget_cons', fput_nil, fput_cons', fputO_some, fputO_none, elemB_nil, elemB_cons', fkeep_nil, fkeep_cons', args0, slotsL, opdsA, List.cons_append, List.nil_append, List.map_cons, List.map_nil, List.append_nil, Option.toList_some, Option.toList_none, decide_yes, decide_no, b_lss, b_leq, b_gtr, b_geq, b_eql, b_neq, b_add, b_sub, b_mul, b_quo_pos, b_rem_pos, b_seql, b_sneq, wrap64, u_not, u_neg, not_decide', eqB_f, eqB_t, idxNat_in, mm_max, mm_min, convI_int, ext_tuple, lget_zero, lget_succ, loadA_old, aload_old, callP_old, callP_rounds, gcO_some, retE_ret, retE_normal, Value.int.injEq, Value.bool.injEq, Value.string.injEq, true_and, and_true, and_self, retP_ret, retP_normal, retX_some, retW_ret, retW_normal, retWX_some, resOf_nil, resOf_tmp, resOf_cell, tupleOf_one, tupleOf_two, loadO_new, loadB_some, Nat.reduceEqDiff, Nat.reduceLT, Nat.reduceAdd, Nat.reduceBEq, Int.reduceAdd, Int.reduceSub, Int.reduceLT, Int.reduceLE, Int.reduceEq, Int.reduceNeg, ↓reduceIte, if_true, if_false, Bool.false_eq_true, Bool.not_true, Bool.not_false, List.length_cons, List.length_nil, List.length_singleton, reduceCtorEq, Int.toNat_natCast, decide_true, decide_false, Nat.zero_add, Nat.add_zero, Int.add_sub_cancel, eq_self, not_true_eq_false, not_false_eq_true, hget_push_one, hget_push_lt, hget_push_gt, hget_set_ne, storeA_new, storeB_some, one_int, one_bool, one_string, one_slice, one_pointer, lget_map, gc_int, gc_bool, gc_string, gc_nil_int, gc_int_int, gc_string_int, Option.some.injEq, Prod.mk.injEq, c6l0]) | (refine does_goI_dec (fun _ => ?_) (fun _ => ?_)) | (refine does_goG_dec (fun _ => ?_) (fun _ => ?_)) | (refine does_goI (fun _ => ?_) (fun _ => ?_)) | (refine does_goG (fun _ => ?_) (fun _ => ?_)))
      exact gc_slice_int (by omega) ho (idsL_ints _ _)

/-! ### the greatest element -/
def mxTo (l : List Int) : Nat → Int
  | 0 => -1
  | k + 1 => max (mxTo l k) l[k]!
theorem mxTo_ge (l : List Int) : ∀ k j, j < k → l[j]! ≤ mxTo l k
  | 0, j, h => by omega
  | k + 1, j, h => by
    simp only [mxTo]
    by_cases hj : j = k
    · subst hj; omega
    · have := mxTo_ge l k j (by omega); omega
theorem mxTo_lo (l : List Int) : ∀ k, -1 ≤ mxTo l k
  | 0 => by simp [mxTo]
  | k + 1 => by have := mxTo_lo l k; simp only [mxTo]; omega
theorem mxTo_hi (l : List Int) (b : Int) (hb : -1 ≤ b) : ∀ k, (∀ j, j < k → l[j]! ≤ b) → mxTo l k ≤ b
  | 0, _ => hb
  | k + 1, h => by have := mxTo_hi l b hb k (fun j hj => h j (by omega)); have := h k (by omega); simp only [mxTo]; omega
theorem max_p (w : World) (n : Nat) {v : Value} {l : List Int} {h : Heap} {nx p : Nat} (hr : Rd (oldOf w) h vI v l) (hm : l.length ≤ 1000000) (h0 : 0 < l.length) (hf : 0 ≤ l[0]!) :
    (EN w (n + 1)).pcall 24 [v] ⟨h, nx, p⟩ = some (.int .i64 (mxTo l l.length), []) := by
  refine pcall_eq rfl rfl (Nat.le_of_ble_eq_true rfl) ?_
  have h1 : mxTo l 1 = l[0]! := by simp only [mxTo]; omega
  repeat' (first | (simp (disch := first | omega | assumption | exact callP_old _ _ _ _ _ | exact one_int _ _ | exact one_bool _ | exact one_string _ | exact one_slice _ _ _ | exact one_pointer _ | exact hget_push_one _ _ _ _ (by omega) | (simp only [List.length_map, List.length_set, List.length_replicate]; omega) | (rw [hget_push_lt _ _ _ _ (by omega)]; first | assumption | exact hget_push_one _ _ _ _ (by omega))) only [runK_nil, runK_seq, runK_seq_exit, runK_seq_ret, runK_block_normal, runK_block_exit, runK_block_ret, go_skip, go_ret, go_exit, go_seq, go_block, go_ops, goO_nil, goO_cons, goV_some, goO_guard, goG_yes, goG_tf, goG_ft, go_cond, goI_true, goI_false, go_draw, goP_nil, goP_cons, goPV_some, goP_guard, goPG_yes, goPG_tf, goPG_ft, does_some, loopP_normal, loopP_exit, loopP_ret, contE_eq, contR_eq, row0, row1, row2, row3, expand_one, replicate_int, replicate_bool, mkSlice_one, idxS_new, idxA_new, len_slice, hget_set_self, Option.map_some, set_int, set_bool, get_set_eq, get_set_ne, op1_some, op2_some, ret1_some, retP_some, retB_some, push_eq, pickX_true, pickX_false, callR_some, callR_none, callX_some, callY_some, slcSX_some, slcX_some, slcAX_some, s_mov, s_pick, s_alloc, s_box, s_build, s_mkRow, s_load, s_nilChk, s_bin, s_eqB, s_eqNil, s_un, s_convI, s_convS, s_b2s, s_mkSlice, s_slcS, s_slc, s_slcA, s_fldA, s_fldV, s_idxS, s_idxA, s_idxStr, s_idxV, s_ext, s_mkFn, s_mkIf, s_len, s_mm, s_cap, s_eqIf, s_callF, s_callV, s_app, s_store, s_copy, q_mov, q_pick, q_alloc, q_box, q_build, q_mkRow, q_load, q_nilChk, q_bin, q_eqB, q_eqNil, q_un, q_convI, q_convS, q_b2s, q_mkSlice, q_slcS, q_slc, q_slcA, q_fldA, q_fldV, q_idxS, q_idxA, q_idxStr, q_idxV, q_ext, q_mkFn, q_mkIf, q_len, q_mm, q_callF, q_cap, q_eqIf, evs_nil, consO_some, evs_cons, evO_none, mapO_some, evO_some, evParts_nil, consP_some, evParts_cons, hiddenHeap_nil, hiddenHeap_true, hiddenHeap_false, hiddenHeap_all, hpush_nil, ev_tmp, ev_const, fget_cons', fput_nil, fput_cons', fputO_some, fputO_none, elemB_nil, elemB_cons', fkeep_nil, fkeep_cons', args0, slotsL, opdsA, List.cons_append, List.nil_append, List.map_cons, List.map_nil, List.append_nil, Option.toList_some, Option.toList_none, decide_yes, decide_no, b_lss, b_leq, b_gtr, b_geq, b_eql, b_neq, b_add, b_sub, b_mul, b_quo_pos, b_rem_pos, b_seql, b_sneq, wrap64, u_not, u_neg, not_decide', eqB_f, eqB_t, idxNat_in, mm_max, mm_min, convI_int, ext_tuple, lget_zero, lget_succ, loadA_old, aload_old, callP_old, callP_rounds, gcO_some, retE_ret, retE_normal, Value.int.injEq, Value.bool.injEq, Value.string.injEq, true_and, and_true, and_self, retP_ret, retP_normal, retX_some, retW_ret, retW_normal, retWX_some, resOf_nil, resOf_tmp, resOf_cell, tupleOf_one, tupleOf_two, loadO_new, loadB_some, Nat.reduceEqDiff, Nat.reduceLT, Nat.reduceAdd, Nat.reduceBEq, Int.reduceAdd, Int.reduceSub, Int.reduceLT, Int.reduceLE, Int.reduceEq, Int.reduceNeg, ↓reduceIte, if_true, if_false, Bool.false_eq_true, Bool.not_true, Bool.not_false, List.length_cons, List.length_nil, List.length_singleton, reduceCtorEq, Int.toNat_natCast, decide_true, decide_false, Nat.zero_add, Nat.add_zero, Int.add_sub_cancel, eq_self, not_true_eq_false, not_false_eq_true, hget_push_one, hget_push_lt, hget_push_gt, hget_set_ne, storeA_new, storeB_some, one_int, one_bool, one_string, one_slice, one_pointer, lget_map, gc_int, gc_bool, gc_string, gc_nil_int, gc_int_int, gc_string_int, Option.some.injEq, Prod.mk.injEq, hr.len, hr.idx, hr.load, vI, Int.toNat_zero]) | (refine does_goI_dec (fun _ => ?_) (fun _ => ?_)) | (refine does_goG_dec (fun _ => ?_) (fun _ => ?_)) | (refine does_goI (fun _ => ?_) (fun _ => ?_)) | (refine does_goG (fun _ => ?_) (fun _ => ?_)))
  refine does_while (fun m fr t => ∃ k : Nat, m = l.length - k ∧ 1 ≤ k ∧ k ≤ l.length ∧ fr = [(0, v), (3, .int .i64 (mxTo l k)), (4, .int .i64 k)] ∧ t = ⟨h, nx, nx⟩) (m := l.length - 1) ?_ ?_ ?_
  · exact ⟨1, rfl, by omega, by omega, by simp [h1], rfl⟩
  · simp (disch := first | omega | assumption | exact callP_old _ _ _ _ _ | exact one_int _ _ | exact one_bool _ | exact one_string _ | exact one_slice _ _ _ | exact one_pointer _ | exact hget_push_one _ _ _ _ (by omega) | (simp only [List.length_map, List.length_set, List.length_replicate]; omega) | (rw [hget_push_lt _ _ _ _ (by omega)]; first | assumption | exact hget_push_one _ _ _ _ (by omega))) only [runK_nil, runK_seq, runK_seq_exit, runK_seq_ret, runK_block_normal, runK_block_exit, runK_block_ret, go_skip, go_ret, go_exit, go_seq, go_block, go_ops, goO_nil, goO_cons, goV_some, goO_guard, goG_yes, goG_tf, goG_ft, go_cond, goI_true, goI_false, go_draw, goP_nil, goP_cons, goPV_some, goP_guard, goPG_yes, goPG_tf, goPG_ft, does_some, loopP_normal, loopP_exit, loopP_ret, contE_eq, contR_eq, row0, row1, row2, row3, expand_one, replicate_int, replicate_bool, mkSlice_one, idxS_new, idxA_new, len_slice, hget_set_self, Option.map_some, set_int, set_bool, get_set_eq, get_set_ne, op1_some, op2_some, ret1_some, retP_some, retB_some, push_eq, pickX_true, pickX_false, callR_some, callR_none, callX_some, callY_some, slcSX_some, slcX_some, slcAX_some, s_mov, s_pick, s_alloc, s_box, s_build, s_mkRow, s_load, s_nilChk, s_bin, s_eqB, s_eqNil, s_un, s_convI, s_convS, s_b2s, s_mkSlice, s_slcS, s_slc, s_slcA, s_fldA, s_fldV, s_idxS, s_idxA, s_idxStr, s_idxV, s_ext, s_mkFn, s_mkIf, s_len, s_mm, s_cap, s_eqIf, s_callF, s_callV, s_app, s_store, s_copy, q_mov, q_pick, q_alloc, q_box, q_build, q_mkRow, q_load, q_nilChk, q_bin, q_eqB, q_eqNil, q_un, q_convI, q_convS, q_b2s, q_mkSlice, q_slcS, q_slc, q_slcA, q_fldA, q_fldV, q_idxS, q_idxA, q_idxStr, q_idxV, q_ext, q_mkFn, q_mkIf, q_len, q_mm, q_callF, q_cap, q_eqIf, evs_nil, consO_some, evs_cons, evO_none, mapO_some, evO_some, evParts_nil, consP_some, evParts_cons, hiddenHeap_nil, hiddenHeap_true, hiddenHeap_false, hiddenHeap_all, hpush_nil, ev_tmp, ev_const, fget_cons', fput_nil, fput_cons', fputO_some, fputO_none, elemB_nil, elemB_cons', fkeep_nil, fkeep_cons', args0, slotsL, opdsA, List.cons_append, List.nil_append, List.map_cons, List.map_nil, List.append_nil, Option.toList_some, Option.toList_none, decide_yes, decide_no, b_lss, b_leq, b_gtr, b_geq, b_eql, b_neq, b_add, b_sub, b_mul, b_quo_pos, b_rem_pos, b_seql, b_sneq, wrap64, u_not, u_neg, not_decide', eqB_f, eqB_t, idxNat_in, mm_max, mm_min, convI_int, ext_tuple, lget_zero, lget_succ, loadA_old, aload_old, callP_old, callP_rounds, gcO_some, retE_ret, retE_normal, Value.int.injEq, Value.bool.injEq, Value.string.injEq, true_and, and_true, and_self, retP_ret, retP_normal, retX_some, retW_ret, retW_normal, retWX_some, resOf_nil, resOf_tmp, resOf_cell, tupleOf_one, tupleOf_two, loadO_new, loadB_some, Nat.reduceEqDiff, Nat.reduceLT, Nat.reduceAdd, Nat.reduceBEq, Int.reduceAdd, Int.reduceSub, Int.reduceLT, Int.reduceLE, Int.reduceEq, Int.reduceNeg, ↓reduceIte, if_true, if_false, Bool.false_eq_true, Bool.not_true, Bool.not_false, List.length_cons, List.length_nil, List.length_singleton, reduceCtorEq, Int.toNat_natCast, decide_true, decide_false, Nat.zero_add, Nat.add_zero, Int.add_sub_cancel, eq_self, not_true_eq_false, not_false_eq_true, hget_push_one, hget_push_lt, hget_push_gt, hget_set_ne, storeA_new, storeB_some, one_int, one_bool, one_string, one_slice, one_pointer, lget_map, gc_int, gc_bool, gc_string, gc_nil_int, gc_int_int, gc_string_int, Option.some.injEq, Prod.mk.injEq]
    unfold many; omega
  · rintro m fr t ⟨k, rfl, hk1, hk, rfl, rfl⟩
    repeat' (first | (simp (disch := first | omega | assumption | exact callP_old _ _ _ _ _ | exact one_int _ _ | exact one_bool _ | exact one_string _ | exact one_slice _ _ _ | exact one_pointer _ | exact hget_push_one _ _ _ _ (by omega) | (simp only [List.length_map, List.length_set, List.length_replicate]; omega) | (rw [hget_push_lt _ _ _ _ (by omega)]; first | assumption | exact hget_push_one _ _ _ _ (by omega))) only [runK_nil, runK_seq, runK_seq_exit, runK_seq_ret, runK_block_normal, runK_block_exit, runK_block_ret, go_skip, go_ret, go_exit, go_seq, go_block, go_ops, goO_nil, goO_cons, goV_some, goO_guard, goG_yes, goG_tf, goG_ft, go_cond, goI_true, goI_false, go_draw, goP_nil, goP_cons, goPV_some, goP_guard, goPG_yes, goPG_tf, goPG_ft, does_some, loopP_normal, loopP_exit, loopP_ret, contE_eq, contR_eq, row0, row1, row2, row3, expand_one, replicate_int, replicate_bool, mkSlice_one, idxS_new, idxA_new, len_slice, hget_set_self, Option.map_some, set_int, set_bool, get_set_eq, get_set_ne, op1_some, op2_some, ret1_some, retP_some, retB_some, push_eq, pickX_true, pickX_false, callR_some, callR_none, callX_some, callY_some, slcSX_some, slcX_some, slcAX_some, s_mov, s_pick, s_alloc, s_box, s_build, s_mkRow, s_load, s_nilChk, s_bin, s_eqB, s_eqNil, s_un, s_convI, s_convS, s_b2s, s_mkSlice, s_slcS, s_slc, s_slcA, s_fldA, s_fldV, s_idxS, s_idxA, s_idxStr, s_idxV, s_ext, s_mkFn, s_mkIf, s_len, s_mm, s_cap, s_eqIf, s_callF, s_callV, s_app, s_store, s_copy, q_mov, q_pick, q_alloc, q_box, q_build, q_mkRow, q_load, q_nilChk, q_bin, q_eqB, q_eqNil, q_un, q_convI, q_convS, q_b2s, q_mkSlice, q_slcS, q_slc, q_slcA, q_fldA, q_fldV, q_idxS, q_idxA, q_idxStr, q_idxV, q_ext, q_mkFn, q_mkIf, q_len, q_mm, q_callF, q_cap, q_eqIf, evs_nil, consO_some, evs_cons, evO_none, mapO_some, evO_some, evParts_nil, consP_some, evParts_cons, hiddenHeap_nil, hiddenHeap_true, hiddenHeap_false, hiddenHeap_all, hpush_nil, ev_tmp, ev_const, fget_cons', fput_nil, fput_cons', fputO_some, fputO_none, elemB_nil, elemB_cons', fkeep_nil, fkeep_cons', args0, slotsL, opdsA, List.cons_append, List.nil_append, List.map_cons, List.map_nil, List.append_nil, Option.toList_some, Option.toList_none, decide_yes, decide_no, b_lss, b_leq, b_gtr, b_geq, b_eql, b_neq, b_add, b_sub, b_mul, b_quo_pos, b_rem_pos, b_seql, b_sneq, wrap64, u_not, u_neg, not_decide', eqB_f, eqB_t, idxNat_in, mm_max, mm_min, convI_int, ext_tuple, lget_zero, lget_succ, loadA_old, aload_old, callP_old, callP_rounds, gcO_some, retE_ret, retE_normal, Value.int.injEq, Value.bool.injEq, Value.string.injEq, true_and, and_true, and_self, retP_ret, retP_normal, retX_some, retW_ret, retW_normal, retWX_some, resOf_nil, resOf_tmp, resOf_cell, tupleOf_one, tupleOf_two, loadO_new, loadB_some, Nat.reduceEqDiff, Nat.reduceLT, Nat.reduceAdd, Nat.reduceBEq, Int.reduceAdd, Int.reduceSub, Int.reduceLT, Int.reduceLE, Int.reduceEq, Int.reduceNeg, ↓reduceIte, if_true, if_false, Bool.false_eq_true, Bool.not_true, Bool.not_false, List.length_cons, List.length_nil, List.length_singleton, reduceCtorEq, Int.toNat_natCast, decide_true, decide_false, Nat.zero_add, Nat.add_zero, Int.add_sub_cancel, eq_self, not_true_eq_false, not_false_eq_true, hget_push_one, hget_push_lt, hget_push_gt, hget_set_ne, storeA_new, storeB_some, one_int, one_bool, one_string, one_slice, one_pointer, lget_map, gc_int, gc_bool, gc_string, gc_nil_int, gc_int_int, gc_string_int, Option.some.injEq, Prod.mk.injEq, c24l0, hr.len, hr.idx, hr.load, vI]) | (refine does_goI_dec (fun _ => ?_) (fun _ => ?_)) | (refine does_goG_dec (fun _ => ?_) (fun _ => ?_)) | (refine does_goI (fun _ => ?_) (fun _ => ?_)) | (refine does_goG (fun _ => ?_) (fun _ => ?_)))
    · refine ⟨_, ?_, k + 1, rfl, by omega, by omega, by simp [mxTo]⟩
      omega
    · rw [show k = l.length by omega]
end Go.Proofs.Ytkjkiodoighgnaa
