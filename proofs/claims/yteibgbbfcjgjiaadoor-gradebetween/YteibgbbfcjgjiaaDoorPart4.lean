/- What is proved: the law GradeBetween returns true for every input (its card, with the listed variables tied to the program's text). Conditions: none beyond the form's own.
   Texts: C40Dt, R40D, H40D.
-/
import Derived.Test.YteibgbbfcjgjiaaDoorPart3
import Derived.Test.YteibgbbfcjgjiaaDoorProg
import Derived.KernelRfl
import Derived.Test.YteibgbbfcjgjiaaDoorRows
import Derived.Test.YteibgbbfcjgjiaaDoorCards
import Derived.Test.YteibgbbfcjgjiaaDoorTie
import Derived.SizedLaws
import Derived.ChangeAt
import Derived.SevenTiedAt
import Derived.Stop.Joined
import Derived.Lay
/- The seat's functions as the interpreter runs them: written by a program out of the loaded form, and shown equal to it below. -/
namespace Go.Proofs.YteibgbbfcjgjiaaDoor
open Go Go.Itp
set_option maxRecDepth 100000
/- raddle/raddlelaw40.GradeBetween -/
def c4l0 : AC :=
  .seq (.seq (.ops [⟨(some 135), none, .mov (.tmp 20)⟩,
          ⟨(some 136), none, .fldA 2 (.tmp 5)⟩,
          ⟨(some 137), none, .load none (.tmp 136)⟩,
          ⟨(some 138), none, .len false (.tmp 137)⟩,
          ⟨(some 139), none, .bin .lss (.tmp 135) (.tmp 138)⟩] [1, 2, 4, 5, 11, 12, 14, 15, 16, 18, 20, 139])
      (.cond (.tmp 139)
        (.skip)
        (.exit 0)))
      (.seq (.block 1
        (.seq (.draw [⟨(some 142), none, .fldA 2 (.tmp 5)⟩,
            ⟨(some 143), none, .load none (.tmp 142)⟩,
            ⟨(some 144), none, .mov (.tmp 20)⟩,
            ⟨(some 145), none, .idxS 1 (.tmp 143) (.tmp 144)⟩,
            ⟨(some 146), none, .load none (.tmp 145)⟩,
            ⟨(some 147), none, .mov (.tmp 1)⟩,
            ⟨(some 148), none, .idxS 1 (.tmp 146) (.tmp 147)⟩,
            ⟨(some 149), none, .load none (.tmp 148)⟩,
            ⟨(some 150), none, .fldA 2 (.tmp 5)⟩,
            ⟨(some 151), none, .load none (.tmp 150)⟩,
            ⟨(some 152), none, .mov (.tmp 20)⟩,
            ⟨(some 153), none, .idxS 1 (.tmp 151) (.tmp 152)⟩,
            ⟨(some 154), none, .load none (.tmp 153)⟩,
            ⟨(some 155), none, .mov (.tmp 1)⟩,
            ⟨(some 156), none, .bin .add (.tmp 155) (.const (.int .i64 1))⟩,
            ⟨(some 157), none, .idxS 1 (.tmp 154) (.tmp 156)⟩,
            ⟨(some 158), none, .load none (.tmp 157)⟩,
            ⟨(some 21), none, .mov (.tmp 149)⟩] [⟨(some 22), none, .mov (.tmp 158)⟩] [[], [], [], [], [], [], [], [], [], [], [], [], [], [], [], [], [], []] [1, 2, 4, 5, 11, 12, 14, 15, 16, 18, 20, 21, 22])
        (.seq (.ops [⟨(some 159), none, .mov (.tmp 4)⟩,
            ⟨(some 160), none, .mov (.tmp 12)⟩,
            ⟨(some 161), none, .mov (.tmp 20)⟩,
            ⟨(some 162), none, .idxS 1 (.tmp 160) (.tmp 161)⟩,
            ⟨(some 163), none, .load none (.tmp 162)⟩,
            ⟨(some 164), none, .mov (.tmp 21)⟩,
            ⟨(some 165), none, .bin .sub (.tmp 163) (.tmp 164)⟩,
            ⟨(some 166), none, .bin .mul (.tmp 159) (.tmp 165)⟩,
            ⟨(some 167), none, .mov (.tmp 22)⟩,
            ⟨(some 168), none, .mov (.tmp 21)⟩,
            ⟨(some 169), none, .bin .sub (.tmp 167) (.tmp 168)⟩,
            ⟨(some 170), none, .mov (.tmp 2)⟩,
            ⟨(some 171), none, .bin .mul (.tmp 169) (.tmp 170)⟩,
            ⟨(some 172), none, .bin .sub (.tmp 166) (.tmp 171)⟩,
            ⟨(some 173), none, .bin .mul (.const (.int .i64 2)) (.tmp 172)⟩,
            ⟨(some 23), none, .mov (.tmp 173)⟩] [1, 2, 4, 5, 11, 12, 14, 15, 16, 18, 20, 21, 22, 23])
        (.seq (.draw [⟨(some 174), none, .mov (.tmp 16)⟩,
            ⟨(some 175), none, .mov (.tmp 20)⟩,
            ⟨(some 176), none, .idxS 1 (.tmp 174) (.tmp 175)⟩,
            ⟨(some 177), none, .load none (.tmp 176)⟩,
            ⟨(some 178), none, .mov (.tmp 21)⟩,
            ⟨(some 179), none, .bin .neq (.tmp 177) (.tmp 178)⟩,
            ⟨(some 180), none, .mov (.tmp 179)⟩,
            ⟨(some 181), (some (180, false)), .mov (.tmp 18)⟩,
            ⟨(some 182), (some (180, false)), .mov (.tmp 20)⟩,
            ⟨(some 183), (some (180, false)), .idxS 1 (.tmp 181) (.tmp 182)⟩,
            ⟨(some 184), (some (180, false)), .load none (.tmp 183)⟩,
            ⟨(some 185), (some (180, false)), .mov (.tmp 22)⟩,
            ⟨(some 186), (some (180, false)), .bin .neq (.tmp 184) (.tmp 185)⟩,
            ⟨(some 187), none, .pick (.tmp 180) (.const (.bool true)) (.tmp 186)⟩,
            ⟨(some 188), none, .mov (.tmp 187)⟩,
            ⟨(some 189), (some (188, false)), .mov (.tmp 23)⟩,
            ⟨(some 190), (some (188, false)), .mov (.tmp 4)⟩,
            ⟨(some 191), (some (188, false)), .bin .gtr (.tmp 189) (.tmp 190)⟩,
            ⟨(some 192), none, .pick (.tmp 188) (.const (.bool true)) (.tmp 191)⟩,
            ⟨(some 193), none, .mov (.tmp 192)⟩,
            ⟨(some 194), (some (193, false)), .mov (.tmp 23)⟩,
            ⟨(some 195), (some (193, false)), .mov (.tmp 4)⟩,
            ⟨(some 196), (some (193, false)), .un .neg (.tmp 195)⟩,
            ⟨(some 197), (some (193, false)), .bin .leq (.tmp 194) (.tmp 196)⟩,
            ⟨(some 198), none, .pick (.tmp 193) (.const (.bool true)) (.tmp 197)⟩,
            ⟨(some 199), none, .mov (.tmp 198)⟩,
            ⟨(some 200), (some (199, false)), .mov (.tmp 15)⟩,
            ⟨(some 201), (some (199, false)), .bin .eql (.tmp 200) (.const (.int .i64 0))⟩,
            ⟨(some 202), (some (199, false)), .mov (.tmp 201)⟩,
            ⟨(some 203), (some (202, true)), .mov (.tmp 14)⟩,
            ⟨(some 204), (some (202, true)), .mov (.tmp 20)⟩,
            ⟨(some 205), (some (202, true)), .idxS 1 (.tmp 203) (.tmp 204)⟩,
            ⟨(some 206), (some (202, true)), .load none (.tmp 205)⟩,
            ⟨(some 207), (some (202, true)), .mov (.tmp 12)⟩,
            ⟨(some 208), (some (202, true)), .mov (.tmp 20)⟩,
            ⟨(some 209), (some (202, true)), .idxS 1 (.tmp 207) (.tmp 208)⟩,
            ⟨(some 210), (some (202, true)), .load none (.tmp 209)⟩] [⟨(some 211), (some (202, true)), .bin .lss (.tmp 206) (.tmp 210)⟩,
            ⟨(some 212), (some (199, false)), .pick (.tmp 202) (.tmp 211) (.const (.bool false))⟩,
            ⟨(some 213), none, .pick (.tmp 199) (.const (.bool true)) (.tmp 212)⟩] [[], [], [], [], [], [], [], [], [], [], [], [], [], [], [], [], [], [], [], [], [], [], [], [], [], [], [], [], [], [], [], [], [], [], [], [], []] [1, 2, 4, 5, 11, 12, 14, 15, 16, 18, 20, 213])
        (.cond (.tmp 213)
          (.seq (.ops [⟨(some 10), none, .mov (.const (.bool false))⟩] [10])
          (.ret))
          (.skip))))))
      (.ops [⟨(some 140), none, .mov (.tmp 20)⟩,
          ⟨(some 141), none, .bin .add (.tmp 140) (.const (.int .i64 1))⟩,
          ⟨(some 20), none, .mov (.tmp 141)⟩] [1, 2, 4, 5, 11, 12, 14, 15, 16, 18, 20]))
def c4 : AFun := ⟨
  .seq (.ops [⟨(some 5), none, .box 25 (.tmp 0)⟩,
      ⟨(some 10), none, .mov (.const (.bool false))⟩] [1, 2, 3, 4, 5])
  (.seq (.ops [⟨(some 24), none, .callF 15 []⟩,
      ⟨(some 11), none, .mov (.tmp 24)⟩] [1, 2, 3, 4, 5, 11])
  (.seq (.seq (.ops [⟨(some 25), none, .load (some 3) (.tmp 5)⟩,
      ⟨(some 26), none, .callF 9 [(.tmp 25)]⟩,
      ⟨(some 27), none, .mov (.tmp 26)⟩,
      ⟨(some 28), (some (27, false)), .load (some 3) (.tmp 5)⟩,
      ⟨(some 29), (some (27, false)), .callF 16 [(.tmp 28)]⟩,
      ⟨(some 30), (some (27, false)), .bin .neq (.tmp 29) (.const (.int .i64 0))⟩,
      ⟨(some 31), none, .pick (.tmp 27) (.const (.bool true)) (.tmp 30)⟩,
      ⟨(some 32), none, .mov (.tmp 31)⟩,
      ⟨(some 33), (some (32, false)), .mov (.tmp 3)⟩,
      ⟨(some 34), (some (32, false)), .bin .lss (.tmp 33) (.const (.int .i64 0))⟩,
      ⟨(some 35), none, .pick (.tmp 32) (.const (.bool true)) (.tmp 34)⟩,
      ⟨(some 36), none, .mov (.tmp 35)⟩,
      ⟨(some 37), (some (36, false)), .mov (.tmp 3)⟩,
      ⟨(some 38), (some (36, false)), .bin .gtr (.tmp 37) (.const (.int .i64 1000))⟩,
      ⟨(some 39), none, .pick (.tmp 36) (.const (.bool true)) (.tmp 38)⟩,
      ⟨(some 40), none, .mov (.tmp 39)⟩,
      ⟨(some 41), (some (40, false)), .mov (.tmp 2)⟩,
      ⟨(some 42), (some (40, false)), .bin .lss (.tmp 41) (.const (.int .i64 0))⟩,
      ⟨(some 43), none, .pick (.tmp 40) (.const (.bool true)) (.tmp 42)⟩,
      ⟨(some 44), none, .mov (.tmp 43)⟩,
      ⟨(some 45), (some (44, false)), .mov (.tmp 2)⟩,
      ⟨(some 46), (some (44, false)), .bin .gtr (.tmp 45) (.const (.int .i64 1000))⟩,
      ⟨(some 47), none, .pick (.tmp 44) (.const (.bool true)) (.tmp 46)⟩,
      ⟨(some 48), none, .mov (.tmp 47)⟩,
      ⟨(some 49), (some (48, false)), .mov (.tmp 11)⟩,
      ⟨(some 50), (some (48, false)), .un .not (.tmp 49)⟩,
      ⟨(some 51), none, .pick (.tmp 48) (.const (.bool true)) (.tmp 50)⟩] [1, 2, 3, 4, 5, 11, 51])
  (.cond (.tmp 51)
    (.seq (.ops [⟨(some 52), none, .mov (.tmp 11)⟩,
        ⟨(some 10), none, .mov (.tmp 52)⟩] [10])
    (.ret))
    (.skip)))
  (.seq (.ops [⟨(some 54), none, .load (some 3) (.tmp 5)⟩,
      ⟨(some 55), none, .mov (.tmp 1)⟩,
      ⟨(some 56), none, .mov (.tmp 2)⟩,
      ⟨(some 57), none, .mov (.tmp 4)⟩,
      ⟨(some 58), none, .callF 17 [(.tmp 54), (.tmp 55), (.tmp 56), (.tmp 57)]⟩,
      ⟨(some 53), none, .mov (.tmp 58)⟩,
      ⟨(some 59), none, .ext (.tmp 53) 0⟩,
      ⟨(some 60), none, .ext (.tmp 53) 1⟩,
      ⟨(some 12), none, .mov (.tmp 59)⟩,
      ⟨(some 13), none, .mov (.tmp 60)⟩] [1, 2, 3, 4, 5, 11, 12, 13])
  (.seq (.ops [⟨(some 62), none, .load (some 3) (.tmp 5)⟩,
      ⟨(some 63), none, .mov (.tmp 1)⟩,
      ⟨(some 64), none, .mov (.tmp 2)⟩,
      ⟨(some 65), none, .mov (.tmp 3)⟩,
      ⟨(some 66), none, .bin .add (.tmp 64) (.tmp 65)⟩,
      ⟨(some 67), none, .mov (.tmp 4)⟩,
      ⟨(some 68), none, .callF 17 [(.tmp 62), (.tmp 63), (.tmp 66), (.tmp 67)]⟩,
      ⟨(some 61), none, .mov (.tmp 68)⟩,
      ⟨(some 69), none, .ext (.tmp 61) 0⟩,
      ⟨(some 70), none, .ext (.tmp 61) 1⟩,
      ⟨(some 14), none, .mov (.tmp 69)⟩,
      ⟨(some 15), none, .mov (.tmp 70)⟩] [1, 2, 4, 5, 11, 12, 13, 14, 15])
  (.seq (.seq (.ops [⟨(some 71), none, .mov (.tmp 13)⟩,
      ⟨(some 72), none, .bin .neq (.tmp 71) (.const (.int .i64 0))⟩] [1, 2, 4, 5, 11, 12, 13, 14, 15, 72])
  (.cond (.tmp 72)
    (.seq (.ops [⟨(some 73), none, .mov (.tmp 11)⟩,
        ⟨(some 74), none, .mov (.tmp 73)⟩,
        ⟨(some 75), (some (74, true)), .mov (.tmp 13)⟩,
        ⟨(some 76), (some (74, true)), .bin .eql (.tmp 75) (.const (.int .i64 2))⟩,
        ⟨(some 77), none, .pick (.tmp 74) (.tmp 76) (.const (.bool false))⟩,
        ⟨(some 10), none, .mov (.tmp 77)⟩] [10])
    (.ret))
    (.skip)))
  (.seq (.ops [⟨(some 79), none, .load (some 3) (.tmp 5)⟩,
      ⟨(some 80), none, .mov (.tmp 1)⟩,
      ⟨(some 81), none, .mov (.tmp 4)⟩,
      ⟨(some 82), none, .callF 17 [(.tmp 79), (.tmp 80), (.const (.int .i64 0)), (.tmp 81)]⟩,
      ⟨(some 78), none, .mov (.tmp 82)⟩,
      ⟨(some 83), none, .ext (.tmp 78) 0⟩,
      ⟨(some 84), none, .ext (.tmp 78) 1⟩,
      ⟨(some 16), none, .mov (.tmp 83)⟩,
      ⟨(some 17), none, .mov (.tmp 84)⟩] [1, 2, 4, 5, 11, 12, 14, 15, 16, 17])
  (.seq (.ops [⟨(some 86), none, .load (some 3) (.tmp 5)⟩,
      ⟨(some 87), none, .mov (.tmp 1)⟩,
      ⟨(some 88), none, .mov (.tmp 4)⟩,
      ⟨(some 89), none, .mov (.tmp 4)⟩,
      ⟨(some 90), none, .callF 17 [(.tmp 86), (.tmp 87), (.tmp 88), (.tmp 89)]⟩,
      ⟨(some 85), none, .mov (.tmp 90)⟩,
      ⟨(some 91), none, .ext (.tmp 85) 0⟩,
      ⟨(some 92), none, .ext (.tmp 85) 1⟩,
      ⟨(some 18), none, .mov (.tmp 91)⟩,
      ⟨(some 19), none, .mov (.tmp 92)⟩] [1, 2, 4, 5, 11, 12, 14, 15, 16, 17, 18, 19])
  (.seq (.seq (.ops [⟨(some 93), none, .mov (.tmp 17)⟩,
      ⟨(some 94), none, .bin .neq (.tmp 93) (.const (.int .i64 0))⟩,
      ⟨(some 95), none, .mov (.tmp 94)⟩,
      ⟨(some 96), (some (95, false)), .mov (.tmp 19)⟩,
      ⟨(some 97), (some (95, false)), .bin .neq (.tmp 96) (.const (.int .i64 0))⟩,
      ⟨(some 98), none, .pick (.tmp 95) (.const (.bool true)) (.tmp 97)⟩,
      ⟨(some 99), none, .mov (.tmp 98)⟩,
      ⟨(some 100), (some (99, false)), .mov (.tmp 12)⟩,
      ⟨(some 101), (some (99, false)), .len false (.tmp 100)⟩,
      ⟨(some 102), (some (99, false)), .fldA 2 (.tmp 5)⟩,
      ⟨(some 103), (some (99, false)), .load none (.tmp 102)⟩,
      ⟨(some 104), (some (99, false)), .len false (.tmp 103)⟩,
      ⟨(some 105), (some (99, false)), .bin .neq (.tmp 101) (.tmp 104)⟩,
      ⟨(some 106), none, .pick (.tmp 99) (.const (.bool true)) (.tmp 105)⟩,
      ⟨(some 107), none, .mov (.tmp 106)⟩,
      ⟨(some 108), (some (107, false)), .mov (.tmp 16)⟩,
      ⟨(some 109), (some (107, false)), .len false (.tmp 108)⟩,
      ⟨(some 110), (some (107, false)), .fldA 2 (.tmp 5)⟩,
      ⟨(some 111), (some (107, false)), .load none (.tmp 110)⟩,
      ⟨(some 112), (some (107, false)), .len false (.tmp 111)⟩,
      ⟨(some 113), (some (107, false)), .bin .neq (.tmp 109) (.tmp 112)⟩,
      ⟨(some 114), none, .pick (.tmp 107) (.const (.bool true)) (.tmp 113)⟩,
      ⟨(some 115), none, .mov (.tmp 114)⟩,
      ⟨(some 116), (some (115, false)), .mov (.tmp 18)⟩,
      ⟨(some 117), (some (115, false)), .len false (.tmp 116)⟩,
      ⟨(some 118), (some (115, false)), .fldA 2 (.tmp 5)⟩,
      ⟨(some 119), (some (115, false)), .load none (.tmp 118)⟩,
      ⟨(some 120), (some (115, false)), .len false (.tmp 119)⟩,
      ⟨(some 121), (some (115, false)), .bin .neq (.tmp 117) (.tmp 120)⟩,
      ⟨(some 122), none, .pick (.tmp 115) (.const (.bool true)) (.tmp 121)⟩,
      ⟨(some 123), none, .mov (.tmp 122)⟩,
      ⟨(some 124), (some (123, false)), .mov (.tmp 15)⟩,
      ⟨(some 125), (some (123, false)), .bin .eql (.tmp 124) (.const (.int .i64 0))⟩,
      ⟨(some 126), (some (123, false)), .mov (.tmp 125)⟩,
      ⟨(some 127), (some (126, true)), .mov (.tmp 14)⟩,
      ⟨(some 128), (some (126, true)), .len false (.tmp 127)⟩,
      ⟨(some 129), (some (126, true)), .fldA 2 (.tmp 5)⟩,
      ⟨(some 130), (some (126, true)), .load none (.tmp 129)⟩,
      ⟨(some 131), (some (126, true)), .len false (.tmp 130)⟩,
      ⟨(some 132), (some (126, true)), .bin .neq (.tmp 128) (.tmp 131)⟩,
      ⟨(some 133), (some (123, false)), .pick (.tmp 126) (.tmp 132) (.const (.bool false))⟩,
      ⟨(some 134), none, .pick (.tmp 123) (.const (.bool true)) (.tmp 133)⟩] [1, 2, 4, 5, 11, 12, 14, 15, 16, 18, 134])
  (.cond (.tmp 134)
    (.seq (.ops [⟨(some 10), none, .mov (.const (.bool false))⟩] [10])
    (.ret))
    (.skip)))
  (.seq (.seq (.ops [⟨(some 20), none, .mov (.const (.int .i64 0))⟩] [1, 2, 4, 5, 11, 12, 14, 15, 16, 18, 20])
  (.block 0
    (.loop [1, 2, 4, 5, 11, 12, 14, 15, 16, 18, 20]
      c4l0)))
  (.seq (.ops [⟨(some 214), none, .mov (.tmp 11)⟩,
      ⟨(some 10), none, .mov (.tmp 214)⟩] [10])
  (.ret))))))))))),
  215, [(10, none)], true⟩
theorem ok4 : FunOK Tryd.prog 4 c4 := ⟨⟨Tryd.f4, _, c4.code, Tryd.func4, rfl, by kernel_rfl, rfl, by kernel_rfl, by kernel_rfl⟩⟩
/- raddle/raddlelaw40.GradeFind -/
def c7 : AFun := ⟨
  .seq (.ops [⟨(some 3), none, .box 25 (.tmp 0)⟩,
      ⟨(some 6), none, .mov (.const (.bool false))⟩] [1, 2, 3])
  (.seq (.ops [⟨(some 13), none, .callF 15 []⟩,
      ⟨(some 7), none, .mov (.tmp 13)⟩] [1, 2, 3, 7])
  (.seq (.seq (.ops [⟨(some 14), none, .load (some 3) (.tmp 3)⟩,
      ⟨(some 15), none, .callF 9 [(.tmp 14)]⟩,
      ⟨(some 16), none, .mov (.tmp 15)⟩,
      ⟨(some 17), (some (16, false)), .load (some 3) (.tmp 3)⟩,
      ⟨(some 18), (some (16, false)), .callF 16 [(.tmp 17)]⟩,
      ⟨(some 19), (some (16, false)), .bin .neq (.tmp 18) (.const (.int .i64 0))⟩,
      ⟨(some 20), none, .pick (.tmp 16) (.const (.bool true)) (.tmp 19)⟩,
      ⟨(some 21), none, .mov (.tmp 20)⟩,
      ⟨(some 22), (some (21, false)), .mov (.tmp 1)⟩,
      ⟨(some 23), (some (21, false)), .bin .lss (.tmp 22) (.const (.int .i64 0))⟩,
      ⟨(some 24), none, .pick (.tmp 21) (.const (.bool true)) (.tmp 23)⟩,
      ⟨(some 25), none, .mov (.tmp 24)⟩,
      ⟨(some 26), (some (25, false)), .mov (.tmp 1)⟩,
      ⟨(some 27), (some (25, false)), .fldA 1 (.tmp 3)⟩,
      ⟨(some 28), (some (25, false)), .load none (.tmp 27)⟩,
      ⟨(some 29), (some (25, false)), .len false (.tmp 28)⟩,
      ⟨(some 30), (some (25, false)), .bin .geq (.tmp 26) (.tmp 29)⟩,
      ⟨(some 31), none, .pick (.tmp 25) (.const (.bool true)) (.tmp 30)⟩,
      ⟨(some 32), none, .mov (.tmp 31)⟩,
      ⟨(some 33), (some (32, false)), .mov (.tmp 7)⟩,
      ⟨(some 34), (some (32, false)), .un .not (.tmp 33)⟩,
      ⟨(some 35), none, .pick (.tmp 32) (.const (.bool true)) (.tmp 34)⟩] [1, 2, 3, 7, 35])
  (.cond (.tmp 35)
    (.seq (.ops [⟨(some 36), none, .mov (.tmp 7)⟩,
        ⟨(some 6), none, .mov (.tmp 36)⟩] [6])
    (.ret))
    (.skip)))
  (.seq (.draw [⟨(some 38), none, .load (some 3) (.tmp 3)⟩,
      ⟨(some 39), none, .fldA 1 (.tmp 3)⟩,
      ⟨(some 40), none, .load none (.tmp 39)⟩,
      ⟨(some 41), none, .mov (.tmp 1)⟩,
      ⟨(some 42), none, .idxS 1 (.tmp 40) (.tmp 41)⟩,
      ⟨(some 43), none, .load none (.tmp 42)⟩,
      ⟨(some 44), none, .mov (.tmp 2)⟩,
      ⟨(some 45), none, .callF 23 [(.tmp 38), (.tmp 43), (.tmp 44)]⟩,
      ⟨(some 37), none, .mov (.tmp 45)⟩,
      ⟨(some 46), none, .ext (.tmp 37) 0⟩,
      ⟨(some 47), none, .ext (.tmp 37) 1⟩,
      ⟨(some 8), none, .mov (.tmp 46)⟩] [⟨(some 9), none, .mov (.tmp 47)⟩] [[], [], [], [], [], [], [], [], [], [], [], []] [1, 2, 3, 7, 8, 9])
  (.seq (.seq (.ops [⟨(some 48), none, .mov (.tmp 9)⟩,
      ⟨(some 49), none, .bin .neq (.tmp 48) (.const (.int .i64 0))⟩] [1, 2, 3, 7, 8, 9, 49])
  (.cond (.tmp 49)
    (.seq (.draw [⟨(some 50), none, .mov (.tmp 7)⟩,
        ⟨(some 51), none, .mov (.tmp 50)⟩,
        ⟨(some 52), (some (51, true)), .mov (.tmp 9)⟩,
        ⟨(some 53), (some (51, true)), .bin .eql (.tmp 52) (.const (.int .i64 6))⟩,
        ⟨(some 54), none, .pick (.tmp 51) (.tmp 53) (.const (.bool false))⟩,
        ⟨(some 55), none, .mov (.tmp 54)⟩,
        ⟨(some 56), (some (55, true)), .fldA 2 (.tmp 3)⟩,
        ⟨(some 57), (some (55, true)), .load none (.tmp 56)⟩,
        ⟨(some 58), (some (55, true)), .mov (.tmp 1)⟩,
        ⟨(some 59), (some (55, true)), .idxS 1 (.tmp 57) (.tmp 58)⟩,
        ⟨(some 60), (some (55, true)), .load none (.tmp 59)⟩,
        ⟨(some 61), (some (55, true)), .fldA 0 (.tmp 3)⟩,
        ⟨(some 62), (some (55, true)), .load none (.tmp 61)⟩,
        ⟨(some 63), (some (55, true)), .len false (.tmp 62)⟩,
        ⟨(some 64), (some (55, true)), .bin .sub (.tmp 63) (.const (.int .i64 1))⟩,
        ⟨(some 65), (some (55, true)), .idxS 1 (.tmp 60) (.tmp 64)⟩,
        ⟨(some 66), (some (55, true)), .load none (.tmp 65)⟩,
        ⟨(some 67), (some (55, true)), .mov (.tmp 2)⟩] [⟨(some 68), (some (55, true)), .bin .lss (.tmp 66) (.tmp 67)⟩,
        ⟨(some 69), none, .pick (.tmp 55) (.tmp 68) (.const (.bool false))⟩,
        ⟨(some 6), none, .mov (.tmp 69)⟩] [[], [], [], [], [], [], [], [], [], [], [], [], [], [], [], [], [], []] [6])
    (.ret))
    (.skip)))
  (.seq (.ops [⟨(some 70), none, .fldA 0 (.tmp 3)⟩,
      ⟨(some 71), none, .load none (.tmp 70)⟩,
      ⟨(some 72), none, .mov (.tmp 8)⟩,
      ⟨(some 73), none, .callF 24 [(.tmp 71), (.tmp 72)]⟩,
      ⟨(some 10), none, .mov (.tmp 73)⟩] [1, 2, 3, 7, 8, 10])
  (.seq (.seq (.ops [⟨(some 74), none, .mov (.tmp 10)⟩,
      ⟨(some 75), none, .bin .lss (.tmp 74) (.const (.int .i64 0))⟩,
      ⟨(some 76), none, .mov (.tmp 75)⟩,
      ⟨(some 77), (some (76, false)), .fldA 2 (.tmp 3)⟩,
      ⟨(some 78), (some (76, false)), .load none (.tmp 77)⟩,
      ⟨(some 79), (some (76, false)), .mov (.tmp 1)⟩,
      ⟨(some 80), (some (76, false)), .idxS 1 (.tmp 78) (.tmp 79)⟩,
      ⟨(some 81), (some (76, false)), .load none (.tmp 80)⟩,
      ⟨(some 82), (some (76, false)), .mov (.tmp 10)⟩,
      ⟨(some 83), (some (76, false)), .idxS 1 (.tmp 81) (.tmp 82)⟩,
      ⟨(some 84), (some (76, false)), .load none (.tmp 83)⟩,
      ⟨(some 85), (some (76, false)), .mov (.tmp 2)⟩,
      ⟨(some 86), (some (76, false)), .bin .lss (.tmp 84) (.tmp 85)⟩,
      ⟨(some 87), none, .pick (.tmp 76) (.const (.bool true)) (.tmp 86)⟩,
      ⟨(some 88), none, .mov (.tmp 87)⟩,
      ⟨(some 89), (some (88, false)), .mov (.tmp 10)⟩,
      ⟨(some 90), (some (88, false)), .bin .gtr (.tmp 89) (.const (.int .i64 0))⟩,
      ⟨(some 91), (some (88, false)), .mov (.tmp 90)⟩,
      ⟨(some 92), (some (91, true)), .fldA 2 (.tmp 3)⟩,
      ⟨(some 93), (some (91, true)), .load none (.tmp 92)⟩,
      ⟨(some 94), (some (91, true)), .mov (.tmp 1)⟩,
      ⟨(some 95), (some (91, true)), .idxS 1 (.tmp 93) (.tmp 94)⟩,
      ⟨(some 96), (some (91, true)), .load none (.tmp 95)⟩,
      ⟨(some 97), (some (91, true)), .mov (.tmp 10)⟩,
      ⟨(some 98), (some (91, true)), .bin .sub (.tmp 97) (.const (.int .i64 1))⟩,
      ⟨(some 99), (some (91, true)), .idxS 1 (.tmp 96) (.tmp 98)⟩,
      ⟨(some 100), (some (91, true)), .load none (.tmp 99)⟩,
      ⟨(some 101), (some (91, true)), .mov (.tmp 2)⟩,
      ⟨(some 102), (some (91, true)), .bin .geq (.tmp 100) (.tmp 101)⟩,
      ⟨(some 103), (some (88, false)), .pick (.tmp 91) (.tmp 102) (.const (.bool false))⟩,
      ⟨(some 104), none, .pick (.tmp 88) (.const (.bool true)) (.tmp 103)⟩] [1, 3, 7, 8, 10, 104])
  (.cond (.tmp 104)
    (.seq (.ops [⟨(some 6), none, .mov (.const (.bool false))⟩] [6])
    (.ret))
    (.skip)))
  (.seq (.draw [⟨(some 106), none, .load (some 3) (.tmp 3)⟩,
      ⟨(some 107), none, .fldA 1 (.tmp 3)⟩,
      ⟨(some 108), none, .load none (.tmp 107)⟩,
      ⟨(some 109), none, .mov (.tmp 1)⟩,
      ⟨(some 110), none, .idxS 1 (.tmp 108) (.tmp 109)⟩,
      ⟨(some 111), none, .load none (.tmp 110)⟩,
      ⟨(some 112), none, .mov (.tmp 8)⟩,
      ⟨(some 113), none, .callF 25 [(.tmp 106), (.tmp 111), (.tmp 112)]⟩,
      ⟨(some 105), none, .mov (.tmp 113)⟩,
      ⟨(some 114), none, .ext (.tmp 105) 0⟩,
      ⟨(some 115), none, .ext (.tmp 105) 1⟩,
      ⟨(some 11), none, .mov (.tmp 114)⟩] [⟨(some 12), none, .mov (.tmp 115)⟩] [[], [], [], [], [], [], [], [], [], [], [], []] [1, 3, 7, 10, 11, 12])
  (.seq (.ops [⟨(some 116), none, .mov (.tmp 7)⟩,
      ⟨(some 117), none, .mov (.tmp 116)⟩,
      ⟨(some 118), (some (117, true)), .mov (.tmp 12)⟩,
      ⟨(some 119), (some (117, true)), .bin .eql (.tmp 118) (.const (.int .i64 0))⟩,
      ⟨(some 120), none, .pick (.tmp 117) (.tmp 119) (.const (.bool false))⟩,
      ⟨(some 121), none, .mov (.tmp 120)⟩,
      ⟨(some 122), (some (121, true)), .mov (.tmp 11)⟩,
      ⟨(some 123), (some (121, true)), .fldA 2 (.tmp 3)⟩,
      ⟨(some 124), (some (121, true)), .load none (.tmp 123)⟩,
      ⟨(some 125), (some (121, true)), .mov (.tmp 1)⟩,
      ⟨(some 126), (some (121, true)), .idxS 1 (.tmp 124) (.tmp 125)⟩,
      ⟨(some 127), (some (121, true)), .load none (.tmp 126)⟩,
      ⟨(some 128), (some (121, true)), .mov (.tmp 10)⟩,
      ⟨(some 129), (some (121, true)), .idxS 1 (.tmp 127) (.tmp 128)⟩,
      ⟨(some 130), (some (121, true)), .load none (.tmp 129)⟩,
      ⟨(some 131), (some (121, true)), .bin .eql (.tmp 122) (.tmp 130)⟩,
      ⟨(some 132), none, .pick (.tmp 121) (.tmp 131) (.const (.bool false))⟩,
      ⟨(some 6), none, .mov (.tmp 132)⟩] [6])
  (.ret))))))))),
  133, [(6, none)], true⟩
theorem ok7 : FunOK Tryd.prog 7 c7 := ⟨⟨Tryd.f7, _, c7.code, Tryd.func7, rfl, by kernel_rfl, rfl, by kernel_rfl, by kernel_rfl⟩⟩
/- raddle/raddleref40.Great -/
def c9l0 : AC :=
  .seq (.seq (.ops [⟨(some 50), none, .mov (.tmp 5)⟩,
          ⟨(some 51), none, .fldA 2 (.tmp 1)⟩,
          ⟨(some 52), none, .load none (.tmp 51)⟩,
          ⟨(some 53), none, .len false (.tmp 52)⟩,
          ⟨(some 54), none, .bin .lss (.tmp 50) (.tmp 53)⟩] [1, 5, 54])
      (.cond (.tmp 54)
        (.skip)
        (.exit 4)))
      (.seq (.block 5
        (.seq (.ops [⟨(some 57), none, .fldA 2 (.tmp 1)⟩,
            ⟨(some 58), none, .load none (.tmp 57)⟩,
            ⟨(some 59), none, .mov (.tmp 5)⟩,
            ⟨(some 60), none, .idxS 1 (.tmp 58) (.tmp 59)⟩,
            ⟨(some 61), none, .load none (.tmp 60)⟩,
            ⟨(some 62), none, .len false (.tmp 61)⟩,
            ⟨(some 63), none, .bin .gtr (.tmp 62) (.const (.int .i64 40))⟩] [1, 5, 63])
        (.cond (.tmp 63)
          (.seq (.ops [⟨(some 2), none, .mov (.const (.bool true))⟩] [2])
          (.ret))
          (.skip))))
      (.ops [⟨(some 55), none, .mov (.tmp 5)⟩,
          ⟨(some 56), none, .bin .add (.tmp 55) (.const (.int .i64 1))⟩,
          ⟨(some 5), none, .mov (.tmp 56)⟩] [1, 5]))
def c9l1 : AC :=
  .seq (.seq (.ops [⟨(some 36), none, .mov (.tmp 4)⟩,
          ⟨(some 37), none, .fldA 1 (.tmp 1)⟩,
          ⟨(some 38), none, .load none (.tmp 37)⟩,
          ⟨(some 39), none, .len false (.tmp 38)⟩,
          ⟨(some 40), none, .bin .lss (.tmp 36) (.tmp 39)⟩] [1, 4, 40])
      (.cond (.tmp 40)
        (.skip)
        (.exit 2)))
      (.seq (.block 3
        (.seq (.ops [⟨(some 43), none, .fldA 1 (.tmp 1)⟩,
            ⟨(some 44), none, .load none (.tmp 43)⟩,
            ⟨(some 45), none, .mov (.tmp 4)⟩,
            ⟨(some 46), none, .idxS 1 (.tmp 44) (.tmp 45)⟩,
            ⟨(some 47), none, .load none (.tmp 46)⟩,
            ⟨(some 48), none, .len true (.tmp 47)⟩,
            ⟨(some 49), none, .bin .gtr (.tmp 48) (.const (.int .i64 60))⟩] [1, 4, 49])
        (.cond (.tmp 49)
          (.seq (.ops [⟨(some 2), none, .mov (.const (.bool true))⟩] [2])
          (.ret))
          (.skip))))
      (.ops [⟨(some 41), none, .mov (.tmp 4)⟩,
          ⟨(some 42), none, .bin .add (.tmp 41) (.const (.int .i64 1))⟩,
          ⟨(some 4), none, .mov (.tmp 42)⟩] [1, 4]))
def c9l2 : AC :=
  .seq (.seq (.ops [⟨(some 22), none, .mov (.tmp 3)⟩,
          ⟨(some 23), none, .fldA 0 (.tmp 1)⟩,
          ⟨(some 24), none, .load none (.tmp 23)⟩,
          ⟨(some 25), none, .len false (.tmp 24)⟩,
          ⟨(some 26), none, .bin .lss (.tmp 22) (.tmp 25)⟩] [1, 3, 26])
      (.cond (.tmp 26)
        (.skip)
        (.exit 0)))
      (.seq (.block 1
        (.seq (.ops [⟨(some 29), none, .fldA 0 (.tmp 1)⟩,
            ⟨(some 30), none, .load none (.tmp 29)⟩,
            ⟨(some 31), none, .mov (.tmp 3)⟩,
            ⟨(some 32), none, .idxS 1 (.tmp 30) (.tmp 31)⟩,
            ⟨(some 33), none, .load none (.tmp 32)⟩,
            ⟨(some 34), none, .len true (.tmp 33)⟩,
            ⟨(some 35), none, .bin .gtr (.tmp 34) (.const (.int .i64 60))⟩] [1, 3, 35])
        (.cond (.tmp 35)
          (.seq (.ops [⟨(some 2), none, .mov (.const (.bool true))⟩] [2])
          (.ret))
          (.skip))))
      (.ops [⟨(some 27), none, .mov (.tmp 3)⟩,
          ⟨(some 28), none, .bin .add (.tmp 27) (.const (.int .i64 1))⟩,
          ⟨(some 3), none, .mov (.tmp 28)⟩] [1, 3]))
def c9 : AFun := ⟨
  .seq (.ops [⟨(some 1), none, .box 25 (.tmp 0)⟩,
      ⟨(some 2), none, .mov (.const (.bool false))⟩] [1])
  (.seq (.seq (.ops [⟨(some 6), none, .fldA 0 (.tmp 1)⟩,
      ⟨(some 7), none, .load none (.tmp 6)⟩,
      ⟨(some 8), none, .len false (.tmp 7)⟩,
      ⟨(some 9), none, .bin .gtr (.tmp 8) (.const (.int .i64 30))⟩,
      ⟨(some 10), none, .mov (.tmp 9)⟩,
      ⟨(some 11), (some (10, false)), .fldA 1 (.tmp 1)⟩,
      ⟨(some 12), (some (10, false)), .load none (.tmp 11)⟩,
      ⟨(some 13), (some (10, false)), .len false (.tmp 12)⟩,
      ⟨(some 14), (some (10, false)), .bin .gtr (.tmp 13) (.const (.int .i64 40))⟩,
      ⟨(some 15), none, .pick (.tmp 10) (.const (.bool true)) (.tmp 14)⟩,
      ⟨(some 16), none, .mov (.tmp 15)⟩,
      ⟨(some 17), (some (16, false)), .fldA 2 (.tmp 1)⟩,
      ⟨(some 18), (some (16, false)), .load none (.tmp 17)⟩,
      ⟨(some 19), (some (16, false)), .len false (.tmp 18)⟩,
      ⟨(some 20), (some (16, false)), .bin .gtr (.tmp 19) (.const (.int .i64 40))⟩,
      ⟨(some 21), none, .pick (.tmp 16) (.const (.bool true)) (.tmp 20)⟩] [1, 21])
  (.cond (.tmp 21)
    (.seq (.ops [⟨(some 2), none, .mov (.const (.bool true))⟩] [2])
    (.ret))
    (.skip)))
  (.seq (.seq (.ops [⟨(some 3), none, .mov (.const (.int .i64 0))⟩] [1, 3])
  (.block 0
    (.loop [1, 3]
      c9l2)))
  (.seq (.seq (.ops [⟨(some 4), none, .mov (.const (.int .i64 0))⟩] [1, 4])
  (.block 2
    (.loop [1, 4]
      c9l1)))
  (.seq (.seq (.ops [⟨(some 5), none, .mov (.const (.int .i64 0))⟩] [1, 5])
  (.block 4
    (.loop [1, 5]
      c9l0)))
  (.seq (.ops [⟨(some 2), none, .mov (.const (.bool false))⟩] [2])
  (.ret)))))),
  64, [(2, none)], true⟩
theorem ok9 : FunOK Tryd.prog 9 c9 := ⟨⟨Tryd.f9, _, c9.code, Tryd.func9, rfl, by kernel_rfl, rfl, by kernel_rfl, by kernel_rfl⟩⟩
/- raddle/grade.Text -/
def c10l0 : AC :=
  .seq (.ops [⟨(some 39), none, .bin .lss (.tmp 38) (.tmp 37)⟩] [1, 5, 23, 24, 25, 36, 37, 38, 39])
            (.seq (.cond (.tmp 39)
              (.skip)
              (.exit 2))
            (.seq (.block 3
              (.seq (.ops [⟨(some 40), none, .idxS 1 (.tmp 36) (.tmp 38)⟩,
                  ⟨(some 41), none, .load none (.tmp 40)⟩,
                  ⟨(some 9), none, .mov (.tmp 41)⟩] [1, 5, 9, 23, 24, 25, 36, 37, 38])
              (.seq (.ops [⟨(some 42), none, .callF 31 [(.tmp 5), (.const (.int .u8 32))]⟩] [1, 5, 9, 23, 24, 25, 36, 37, 38])
              (.ops [⟨(some 43), none, .mov (.tmp 9)⟩,
                  ⟨(some 44), none, .callF 32 [(.tmp 43)]⟩,
                  ⟨(some 45), none, .callF 29 [(.tmp 5), (.tmp 44)]⟩] [1, 5, 23, 24, 25, 36, 37, 38]))))
            (.ops [⟨(some 46), none, .bin .add (.tmp 38) (.const (.int .i64 1))⟩,
                ⟨(some 38), none, .mov (.tmp 46)⟩] [1, 5, 23, 24, 25, 36, 37, 38])))
def c10l1 : AC :=
  .seq (.ops [⟨(some 26), none, .bin .lss (.tmp 25) (.tmp 24)⟩] [1, 5, 23, 24, 25, 26])
      (.seq (.cond (.tmp 26)
        (.skip)
        (.exit 0))
      (.seq (.block 1
        (.seq (.ops [⟨(some 27), none, .mov (.tmp 25)⟩,
            ⟨(some 28), none, .idxS 1 (.tmp 23) (.tmp 25)⟩,
            ⟨(some 29), none, .load none (.tmp 28)⟩,
            ⟨(some 6), none, .mov (.tmp 27)⟩,
            ⟨(some 7), none, .mov (.tmp 29)⟩] [1, 5, 6, 7, 23, 24, 25])
        (.seq (.ops [⟨(some 30), none, .fldA 1 (.tmp 1)⟩,
            ⟨(some 31), none, .load none (.tmp 30)⟩,
            ⟨(some 32), none, .mov (.tmp 6)⟩,
            ⟨(some 33), none, .idxS 1 (.tmp 31) (.tmp 32)⟩,
            ⟨(some 34), none, .load none (.tmp 33)⟩,
            ⟨(some 35), none, .callF 29 [(.tmp 5), (.tmp 34)]⟩] [1, 5, 7, 23, 24, 25])
        (.seq (.seq (.ops [⟨(some 36), none, .mov (.tmp 7)⟩,
            ⟨(some 37), none, .len false (.tmp 36)⟩,
            ⟨(some 38), none, .mov (.const (.int .i64 0))⟩] [1, 5, 23, 24, 25, 36, 37, 38])
        (.block 2
          (.loop [1, 5, 23, 24, 25, 36, 37, 38]
            c10l0)))
        (.ops [⟨(some 47), none, .callF 31 [(.tmp 5), (.const (.int .u8 10))]⟩] [1, 5, 23, 24, 25])))))
      (.ops [⟨(some 48), none, .bin .add (.tmp 25) (.const (.int .i64 1))⟩,
          ⟨(some 25), none, .mov (.tmp 48)⟩] [1, 5, 23, 24, 25])))
def c10 : AFun := ⟨
  .seq (.ops [⟨(some 1), none, .box 25 (.tmp 0)⟩,
      ⟨(some 2), none, .mov (.const (.string ⟨#[]⟩))⟩,
      ⟨(some 3), none, .mov (.const (.int .i64 0))⟩] [1])
  (.seq (.seq (.ops [⟨(some 10), none, .load (some 3) (.tmp 1)⟩,
      ⟨(some 11), none, .callF 19 [(.tmp 10)]⟩,
      ⟨(some 4), none, .mov (.tmp 11)⟩] [1, 4])
  (.seq (.ops [⟨(some 12), none, .mov (.tmp 4)⟩,
      ⟨(some 13), none, .bin .neq (.tmp 12) (.const (.int .i64 0))⟩] [1, 4, 13])
  (.cond (.tmp 13)
    (.seq (.ops [⟨(some 14), none, .mov (.tmp 4)⟩,
        ⟨(some 2), none, .mov (.const (.string ⟨#[]⟩))⟩,
        ⟨(some 3), none, .mov (.tmp 14)⟩] [2, 3])
    (.ret))
    (.skip))))
  (.seq (.ops [⟨(some 5), none, .alloc 61 [(1, (.pointer none)), (1, (.slice none 0 0))]⟩] [1, 5])
  (.seq (.ops [⟨(some 15), none, .mkRow 9 1 1 [(.string ⟨#[]⟩)] [(0, 1, (.const (.string ⟨#[115, 105, 122, 101]⟩)))]⟩,
      ⟨(some 16), none, .fldA 0 (.tmp 1)⟩,
      ⟨(some 17), none, .load none (.tmp 16)⟩,
      ⟨(some 18), none, .app 9 1 16 (.tmp 15) (.tmp 17)⟩,
      ⟨(some 19), none, .callF 30 [(.tmp 18), (.const (.string ⟨#[32]⟩))]⟩,
      ⟨(some 20), none, .callF 29 [(.tmp 5), (.tmp 19)]⟩] [1, 5])
  (.seq (.ops [⟨(some 21), none, .callF 31 [(.tmp 5), (.const (.int .u8 10))]⟩] [1, 5])
  (.seq (.seq (.ops [⟨(some 22), none, .fldA 2 (.tmp 1)⟩,
      ⟨(some 23), none, .load none (.tmp 22)⟩,
      ⟨(some 24), none, .len false (.tmp 23)⟩,
      ⟨(some 25), none, .mov (.const (.int .i64 0))⟩] [1, 5, 23, 24, 25])
  (.block 0
    (.loop [1, 5, 23, 24, 25]
      c10l1)))
  (.seq (.seq (.ops [⟨(some 49), none, .callF 33 [(.tmp 5)]⟩,
      ⟨(some 50), none, .bin .gtr (.tmp 49) (.const (.int .i64 8000))⟩] [5, 50])
  (.cond (.tmp 50)
    (.seq (.ops [⟨(some 2), none, .mov (.const (.string ⟨#[]⟩))⟩,
        ⟨(some 3), none, .mov (.const (.int .i64 4))⟩] [2, 3])
    (.ret))
    (.skip)))
  (.seq (.ops [⟨(some 51), none, .callF 34 [(.tmp 5)]⟩,
      ⟨(some 2), none, .mov (.tmp 51)⟩,
      ⟨(some 3), none, .mov (.const (.int .i64 0))⟩] [2, 3])
  (.ret)))))))),
  52, [(2, none), (3, none)], true⟩
theorem ok10 : FunOK Tryd.prog 10 c10 := ⟨⟨Tryd.f10, _, c10.code, Tryd.func10, rfl, by kernel_rfl, rfl, by kernel_rfl, by kernel_rfl⟩⟩
/- raddle/grade.Parse -/
def c12l0 : AC :=
  .seq (.ops [⟨(some 42), none, .bin .lss (.tmp 41) (.tmp 40)⟩] [0, 2, 4, 7, 8, 21, 22, 23, 39, 40, 41, 42])
            (.seq (.cond (.tmp 42)
              (.skip)
              (.exit 2))
            (.seq (.block 3
              (.seq (.ops [⟨(some 43), none, .idxS 1 (.tmp 39) (.tmp 41)⟩,
                  ⟨(some 44), none, .load none (.tmp 43)⟩,
                  ⟨(some 10), none, .mov (.tmp 44)⟩] [0, 2, 4, 7, 8, 10, 21, 22, 23, 39, 40, 41])
              (.seq (.ops [⟨(some 46), none, .mov (.tmp 10)⟩,
                  ⟨(some 47), none, .callF 38 [(.tmp 46)]⟩,
                  ⟨(some 45), none, .mov (.tmp 47)⟩,
                  ⟨(some 48), none, .ext (.tmp 45) 0⟩,
                  ⟨(some 49), none, .ext (.tmp 45) 1⟩,
                  ⟨(some 11), none, .mov (.tmp 48)⟩,
                  ⟨(some 12), none, .mov (.tmp 49)⟩] [0, 2, 4, 7, 8, 11, 12, 21, 22, 23, 39, 40, 41])
              (.seq (.seq (.ops [⟨(some 50), none, .mov (.tmp 12)⟩,
                  ⟨(some 51), none, .eqIf true true [2, 3, 5, 6, 12, 21, 27, 97, 105, 116, 124, 146, 147, 149, 150] (.tmp 50) (.const .nilIface)⟩] [0, 2, 4, 7, 8, 11, 21, 22, 23, 39, 40, 41, 51])
              (.cond (.tmp 51)
                (.seq (.ops [⟨(some 52), none, .build [(.slice none 0 0), (.slice none 0 0), (.slice none 0 0)] []⟩,
                    ⟨none, none, .store 3 (.tmp 2) (.tmp 52)⟩,
                    ⟨(some 3), none, .mov (.const (.int .i64 12))⟩] [2, 3])
                (.ret))
                (.skip)))
              (.ops [⟨(some 53), none, .mov (.tmp 8)⟩,
                  ⟨(some 54), none, .mov (.tmp 11)⟩,
                  ⟨(some 55), none, .mkRow 3 1 1 [(.int .i64 0)] [(0, 1, (.tmp 54))]⟩,
                  ⟨(some 56), none, .app 3 1 8 (.tmp 53) (.tmp 55)⟩,
                  ⟨(some 8), none, .mov (.tmp 56)⟩] [0, 2, 4, 7, 8, 21, 22, 23, 39, 40, 41])))))
            (.ops [⟨(some 57), none, .bin .add (.tmp 41) (.const (.int .i64 1))⟩,
                ⟨(some 41), none, .mov (.tmp 57)⟩] [0, 2, 4, 7, 8, 21, 22, 23, 39, 40, 41])))
def c12l1 : AC :=
  .seq (.ops [⟨(some 24), none, .bin .lss (.tmp 23) (.tmp 22)⟩] [0, 2, 4, 21, 22, 23, 24])
      (.seq (.cond (.tmp 24)
        (.skip)
        (.exit 0))
      (.seq (.block 1
        (.seq (.ops [⟨(some 25), none, .mov (.tmp 23)⟩,
            ⟨(some 26), none, .idxS 1 (.tmp 21) (.tmp 23)⟩,
            ⟨(some 27), none, .load none (.tmp 26)⟩,
            ⟨(some 5), none, .mov (.tmp 25)⟩,
            ⟨(some 6), none, .mov (.tmp 27)⟩] [0, 2, 4, 5, 6, 21, 22, 23])
        (.seq (.ops [⟨(some 28), none, .mov (.tmp 6)⟩,
            ⟨(some 29), none, .callF 36 [(.tmp 28), (.const (.string ⟨#[32]⟩))]⟩,
            ⟨(some 7), none, .mov (.tmp 29)⟩] [0, 2, 4, 5, 7, 21, 22, 23])
        (.seq (.seq (.ops [⟨(some 30), none, .mov (.tmp 5)⟩,
            ⟨(some 31), none, .bin .eql (.tmp 30) (.const (.int .i64 0))⟩] [0, 2, 4, 7, 21, 22, 23, 31])
        (.cond (.tmp 31)
          (.seq (.ops [⟨(some 32), none, .mov (.tmp 7)⟩,
              ⟨(some 33), none, .slc 1 (.tmp 32) (some (.const (.int .i64 1))) none none⟩,
              ⟨(some 34), none, .fldA 0 (.tmp 4)⟩,
              ⟨none, none, .store 1 (.tmp 34) (.tmp 33)⟩] [0, 2, 4, 21, 22, 23])
          (.exit 1))
          (.skip)))
        (.seq (.ops [⟨(some 35), none, .mov (.tmp 7)⟩,
            ⟨(some 36), none, .len false (.tmp 35)⟩,
            ⟨(some 37), none, .mkSlice 3 1 8 [(.int .i64 0)] (.const (.int .i64 0)) (.tmp 36)⟩,
            ⟨(some 8), none, .mov (.tmp 37)⟩] [0, 2, 4, 7, 8, 21, 22, 23])
        (.seq (.seq (.ops [⟨(some 38), none, .mov (.tmp 7)⟩,
            ⟨(some 39), none, .slc 1 (.tmp 38) (some (.const (.int .i64 1))) none none⟩,
            ⟨(some 40), none, .len false (.tmp 39)⟩,
            ⟨(some 41), none, .mov (.const (.int .i64 0))⟩] [0, 2, 4, 7, 8, 21, 22, 23, 39, 40, 41])
        (.block 2
          (.loop [0, 2, 4, 7, 8, 21, 22, 23, 39, 40, 41]
            c12l0)))
        (.drawW [⟨⟨(some 58), none, .fldA 1 (.tmp 4)⟩, [], none⟩,
            ⟨⟨(some 59), none, .load none (.tmp 58)⟩, [], none⟩,
            ⟨⟨(some 60), none, .mov (.tmp 7)⟩, [0, 1], none⟩,
            ⟨⟨(some 61), none, .idxS 1 (.tmp 60) (.const (.int .i64 0))⟩, [0, 1], none⟩,
            ⟨⟨(some 62), none, .load none (.tmp 61)⟩, [0, 1], none⟩,
            ⟨⟨(some 63), none, .mkRow 9 1 1 [(.string ⟨#[]⟩)] [(0, 1, (.tmp 62))]⟩, [0, 1], none⟩,
            ⟨⟨(some 64), none, .app 9 1 16 (.tmp 59) (.tmp 63)⟩, [], none⟩,
            ⟨⟨(some 65), none, .fldA 2 (.tmp 4)⟩, [0, 1, 2, 3, 4, 5, 6], none⟩,
            ⟨⟨(some 66), none, .load none (.tmp 65)⟩, [0, 1, 2, 3, 4, 5, 6], none⟩,
            ⟨⟨(some 67), none, .mov (.tmp 8)⟩, [0, 1, 2, 3, 4, 5, 6, 7, 8], none⟩,
            ⟨⟨(some 68), none, .mkRow 40 1 1 [(.slice none 0 0)] [(0, 1, (.tmp 67))]⟩, [0, 1, 2, 3, 4, 5, 6, 7, 8], none⟩,
            ⟨⟨(some 69), none, .app 40 1 24 (.tmp 66) (.tmp 68)⟩, [], none⟩,
            ⟨⟨(some 70), none, .fldA 1 (.tmp 4)⟩, [9, 10, 11], none⟩] [⟨none, none, .store 1 (.tmp 70) (.tmp 64)⟩,
            ⟨(some 71), none, .fldA 2 (.tmp 4)⟩,
            ⟨none, none, .store 1 (.tmp 71) (.tmp 69)⟩] [0, 2, 4, 21, 22, 23])))))))
      (.ops [⟨(some 72), none, .bin .add (.tmp 23) (.const (.int .i64 1))⟩,
          ⟨(some 23), none, .mov (.tmp 72)⟩] [0, 2, 4, 21, 22, 23])))
def c12 : AFun := ⟨
  .seq (.ops [⟨(some 2), none, .alloc 25 [(3, (.slice none 0 0))]⟩,
      ⟨(some 3), none, .mov (.const (.int .i64 0))⟩] [0, 2])
  (.seq (.seq (.ops [⟨(some 15), none, .mov (.tmp 0)⟩,
      ⟨(some 16), none, .len true (.tmp 15)⟩,
      ⟨(some 17), none, .bin .gtr (.tmp 16) (.const (.int .i64 8000))⟩] [0, 2, 17])
  (.cond (.tmp 17)
    (.seq (.ops [⟨(some 18), none, .build [(.slice none 0 0), (.slice none 0 0), (.slice none 0 0)] []⟩,
        ⟨none, none, .store 3 (.tmp 2) (.tmp 18)⟩,
        ⟨(some 3), none, .mov (.const (.int .i64 12))⟩] [2, 3])
    (.ret))
    (.skip)))
  (.seq (.ops [⟨(some 4), none, .alloc 25 [(3, (.slice none 0 0))]⟩] [0, 2, 4])
  (.seq (.seq (.ops [⟨(some 19), none, .mov (.tmp 0)⟩,
      ⟨(some 20), none, .callF 37 [(.tmp 19), (.const (.string ⟨#[10]⟩))]⟩,
      ⟨(some 21), none, .callF 36 [(.tmp 20), (.const (.string ⟨#[10]⟩))]⟩,
      ⟨(some 22), none, .len false (.tmp 21)⟩,
      ⟨(some 23), none, .mov (.const (.int .i64 0))⟩] [0, 2, 4, 21, 22, 23])
  (.block 0
    (.loop [0, 2, 4, 21, 22, 23]
      c12l1)))
  (.seq (.seq (.ops [⟨(some 74), none, .load (some 3) (.tmp 4)⟩,
      ⟨(some 75), none, .callF 10 [(.tmp 74)]⟩,
      ⟨(some 73), none, .mov (.tmp 75)⟩,
      ⟨(some 76), none, .ext (.tmp 73) 0⟩,
      ⟨(some 77), none, .ext (.tmp 73) 1⟩,
      ⟨(some 13), none, .mov (.tmp 76)⟩,
      ⟨(some 14), none, .mov (.tmp 77)⟩] [0, 2, 4, 13, 14])
  (.seq (.ops [⟨(some 78), none, .mov (.tmp 14)⟩,
      ⟨(some 79), none, .bin .neq (.tmp 78) (.const (.int .i64 0))⟩,
      ⟨(some 80), none, .mov (.tmp 79)⟩,
      ⟨(some 81), (some (80, false)), .mov (.tmp 13)⟩,
      ⟨(some 82), (some (80, false)), .mov (.tmp 0)⟩,
      ⟨(some 83), (some (80, false)), .bin .neq (.tmp 81) (.tmp 82)⟩,
      ⟨(some 84), none, .pick (.tmp 80) (.const (.bool true)) (.tmp 83)⟩] [2, 4, 84])
  (.cond (.tmp 84)
    (.seq (.ops [⟨(some 85), none, .build [(.slice none 0 0), (.slice none 0 0), (.slice none 0 0)] []⟩,
        ⟨none, none, .store 3 (.tmp 2) (.tmp 85)⟩,
        ⟨(some 3), none, .mov (.const (.int .i64 12))⟩] [2, 3])
    (.ret))
    (.skip))))
  (.seq (.ops [⟨(some 86), none, .load (some 3) (.tmp 4)⟩,
      ⟨none, none, .store 3 (.tmp 2) (.tmp 86)⟩,
      ⟨(some 3), none, .mov (.const (.int .i64 0))⟩] [2, 3])
  (.ret)))))),
  87, [(2, (some (some 3))), (3, none)], true⟩
theorem ok12 : FunOK Tryd.prog 12 c12 := ⟨⟨Tryd.f12, _, c12.code, Tryd.func12, rfl, by kernel_rfl, rfl, by kernel_rfl, by kernel_rfl⟩⟩
/- raddle/raddleref40.Same -/
def c14l0 : AC :=
  .seq (.seq (.ops [⟨(some 69), none, .mov (.tmp 7)⟩,
          ⟨(some 70), none, .fldA 2 (.tmp 2)⟩,
          ⟨(some 71), none, .load none (.tmp 70)⟩,
          ⟨(some 72), none, .len false (.tmp 71)⟩,
          ⟨(some 73), none, .bin .lss (.tmp 69) (.tmp 72)⟩] [2, 3, 7, 73])
      (.cond (.tmp 73)
        (.skip)
        (.exit 4)))
      (.seq (.block 5
        (.seq (.draw [⟨(some 76), none, .fldA 2 (.tmp 2)⟩,
            ⟨(some 77), none, .load none (.tmp 76)⟩,
            ⟨(some 78), none, .mov (.tmp 7)⟩,
            ⟨(some 79), none, .idxS 1 (.tmp 77) (.tmp 78)⟩,
            ⟨(some 80), none, .load none (.tmp 79)⟩,
            ⟨(some 81), none, .fldA 2 (.tmp 3)⟩,
            ⟨(some 82), none, .load none (.tmp 81)⟩,
            ⟨(some 83), none, .mov (.tmp 7)⟩,
            ⟨(some 84), none, .idxS 1 (.tmp 82) (.tmp 83)⟩,
            ⟨(some 85), none, .load none (.tmp 84)⟩] [⟨(some 86), none, .callF 28 [(.tmp 80), (.tmp 85)]⟩,
            ⟨(some 87), none, .un .not (.tmp 86)⟩] [[], [], [], [], [], [], [], [], [], []] [2, 3, 7, 87])
        (.cond (.tmp 87)
          (.seq (.ops [⟨(some 4), none, .mov (.const (.bool false))⟩] [4])
          (.ret))
          (.skip))))
      (.ops [⟨(some 74), none, .mov (.tmp 7)⟩,
          ⟨(some 75), none, .bin .add (.tmp 74) (.const (.int .i64 1))⟩,
          ⟨(some 7), none, .mov (.tmp 75)⟩] [2, 3, 7]))
def c14l1 : AC :=
  .seq (.seq (.ops [⟨(some 51), none, .mov (.tmp 6)⟩,
          ⟨(some 52), none, .fldA 1 (.tmp 2)⟩,
          ⟨(some 53), none, .load none (.tmp 52)⟩,
          ⟨(some 54), none, .len false (.tmp 53)⟩,
          ⟨(some 55), none, .bin .lss (.tmp 51) (.tmp 54)⟩] [2, 3, 6, 55])
      (.cond (.tmp 55)
        (.skip)
        (.exit 2)))
      (.seq (.block 3
        (.seq (.draw [⟨(some 58), none, .fldA 1 (.tmp 2)⟩,
            ⟨(some 59), none, .load none (.tmp 58)⟩,
            ⟨(some 60), none, .mov (.tmp 6)⟩,
            ⟨(some 61), none, .idxS 1 (.tmp 59) (.tmp 60)⟩,
            ⟨(some 62), none, .load none (.tmp 61)⟩,
            ⟨(some 63), none, .fldA 1 (.tmp 3)⟩,
            ⟨(some 64), none, .load none (.tmp 63)⟩,
            ⟨(some 65), none, .mov (.tmp 6)⟩,
            ⟨(some 66), none, .idxS 1 (.tmp 64) (.tmp 65)⟩,
            ⟨(some 67), none, .load none (.tmp 66)⟩] [⟨(some 68), none, .bin .neq (.tmp 62) (.tmp 67)⟩] [[], [], [], [], [], [], [], [], [], []] [2, 3, 6, 68])
        (.cond (.tmp 68)
          (.seq (.ops [⟨(some 4), none, .mov (.const (.bool false))⟩] [4])
          (.ret))
          (.skip))))
      (.ops [⟨(some 56), none, .mov (.tmp 6)⟩,
          ⟨(some 57), none, .bin .add (.tmp 56) (.const (.int .i64 1))⟩,
          ⟨(some 6), none, .mov (.tmp 57)⟩] [2, 3, 6]))
def c14l2 : AC :=
  .seq (.seq (.ops [⟨(some 33), none, .mov (.tmp 5)⟩,
          ⟨(some 34), none, .fldA 0 (.tmp 2)⟩,
          ⟨(some 35), none, .load none (.tmp 34)⟩,
          ⟨(some 36), none, .len false (.tmp 35)⟩,
          ⟨(some 37), none, .bin .lss (.tmp 33) (.tmp 36)⟩] [2, 3, 5, 37])
      (.cond (.tmp 37)
        (.skip)
        (.exit 0)))
      (.seq (.block 1
        (.seq (.draw [⟨(some 40), none, .fldA 0 (.tmp 2)⟩,
            ⟨(some 41), none, .load none (.tmp 40)⟩,
            ⟨(some 42), none, .mov (.tmp 5)⟩,
            ⟨(some 43), none, .idxS 1 (.tmp 41) (.tmp 42)⟩,
            ⟨(some 44), none, .load none (.tmp 43)⟩,
            ⟨(some 45), none, .fldA 0 (.tmp 3)⟩,
            ⟨(some 46), none, .load none (.tmp 45)⟩,
            ⟨(some 47), none, .mov (.tmp 5)⟩,
            ⟨(some 48), none, .idxS 1 (.tmp 46) (.tmp 47)⟩,
            ⟨(some 49), none, .load none (.tmp 48)⟩] [⟨(some 50), none, .bin .neq (.tmp 44) (.tmp 49)⟩] [[], [], [], [], [], [], [], [], [], []] [2, 3, 5, 50])
        (.cond (.tmp 50)
          (.seq (.ops [⟨(some 4), none, .mov (.const (.bool false))⟩] [4])
          (.ret))
          (.skip))))
      (.ops [⟨(some 38), none, .mov (.tmp 5)⟩,
          ⟨(some 39), none, .bin .add (.tmp 38) (.const (.int .i64 1))⟩,
          ⟨(some 5), none, .mov (.tmp 39)⟩] [2, 3, 5]))
def c14 : AFun := ⟨
  .seq (.ops [⟨(some 2), none, .box 25 (.tmp 0)⟩,
      ⟨(some 3), none, .box 25 (.tmp 1)⟩,
      ⟨(some 4), none, .mov (.const (.bool false))⟩] [2, 3])
  (.seq (.seq (.ops [⟨(some 8), none, .fldA 0 (.tmp 2)⟩,
      ⟨(some 9), none, .load none (.tmp 8)⟩,
      ⟨(some 10), none, .len false (.tmp 9)⟩,
      ⟨(some 11), none, .fldA 0 (.tmp 3)⟩,
      ⟨(some 12), none, .load none (.tmp 11)⟩,
      ⟨(some 13), none, .len false (.tmp 12)⟩,
      ⟨(some 14), none, .bin .neq (.tmp 10) (.tmp 13)⟩,
      ⟨(some 15), none, .mov (.tmp 14)⟩,
      ⟨(some 16), (some (15, false)), .fldA 1 (.tmp 2)⟩,
      ⟨(some 17), (some (15, false)), .load none (.tmp 16)⟩,
      ⟨(some 18), (some (15, false)), .len false (.tmp 17)⟩,
      ⟨(some 19), (some (15, false)), .fldA 1 (.tmp 3)⟩,
      ⟨(some 20), (some (15, false)), .load none (.tmp 19)⟩,
      ⟨(some 21), (some (15, false)), .len false (.tmp 20)⟩,
      ⟨(some 22), (some (15, false)), .bin .neq (.tmp 18) (.tmp 21)⟩,
      ⟨(some 23), none, .pick (.tmp 15) (.const (.bool true)) (.tmp 22)⟩,
      ⟨(some 24), none, .mov (.tmp 23)⟩,
      ⟨(some 25), (some (24, false)), .fldA 2 (.tmp 2)⟩,
      ⟨(some 26), (some (24, false)), .load none (.tmp 25)⟩,
      ⟨(some 27), (some (24, false)), .len false (.tmp 26)⟩,
      ⟨(some 28), (some (24, false)), .fldA 2 (.tmp 3)⟩,
      ⟨(some 29), (some (24, false)), .load none (.tmp 28)⟩,
      ⟨(some 30), (some (24, false)), .len false (.tmp 29)⟩,
      ⟨(some 31), (some (24, false)), .bin .neq (.tmp 27) (.tmp 30)⟩,
      ⟨(some 32), none, .pick (.tmp 24) (.const (.bool true)) (.tmp 31)⟩] [2, 3, 32])
  (.cond (.tmp 32)
    (.seq (.ops [⟨(some 4), none, .mov (.const (.bool false))⟩] [4])
    (.ret))
    (.skip)))
  (.seq (.seq (.ops [⟨(some 5), none, .mov (.const (.int .i64 0))⟩] [2, 3, 5])
  (.block 0
    (.loop [2, 3, 5]
      c14l2)))
  (.seq (.seq (.ops [⟨(some 6), none, .mov (.const (.int .i64 0))⟩] [2, 3, 6])
  (.block 2
    (.loop [2, 3, 6]
      c14l1)))
  (.seq (.seq (.ops [⟨(some 7), none, .mov (.const (.int .i64 0))⟩] [2, 3, 7])
  (.block 4
    (.loop [2, 3, 7]
      c14l0)))
  (.seq (.ops [⟨(some 4), none, .mov (.const (.bool true))⟩] [4])
  (.ret)))))),
  88, [(4, none)], true⟩
theorem ok14 : FunOK Tryd.prog 14 c14 := ⟨⟨Tryd.f14, _, c14.code, Tryd.func14, rfl, by kernel_rfl, rfl, by kernel_rfl, by kernel_rfl⟩⟩
/- raddle/raddlelaw40.alive -/
def c15 : AFun := ⟨
  .seq (.ops [⟨(some 0), none, .mov (.const (.bool false))⟩] [])
  (.seq (.ops [⟨(some 14), none, .callF 41 []⟩,
      ⟨(some 15), none, .callF 10 [(.tmp 14)]⟩,
      ⟨(some 13), none, .mov (.tmp 15)⟩,
      ⟨(some 16), none, .ext (.tmp 13) 0⟩,
      ⟨(some 17), none, .ext (.tmp 13) 1⟩,
      ⟨(some 1), none, .mov (.tmp 16)⟩,
      ⟨(some 2), none, .mov (.tmp 17)⟩] [1, 2])
  (.seq (.ops [⟨(some 19), none, .callF 12 [(.const (.string ⟨#[115, 105, 122, 101, 32, 115, 32, 109, 32, 108, 10, 99, 104, 101, 115, 116, 32, 57, 48, 48, 32, 49, 48, 48, 48, 32, 49, 49, 53, 48, 10, 115, 108, 101, 101, 118, 101, 32, 53, 56, 48, 32, 54, 48, 48, 32, 54, 50, 48, 10]⟩))]⟩,
      ⟨(some 18), none, .mov (.tmp 19)⟩,
      ⟨(some 20), none, .ext (.tmp 18) 0⟩,
      ⟨(some 21), none, .ext (.tmp 18) 1⟩,
      ⟨(some 3), none, .alloc 25 [(3, (.slice none 0 0))]⟩,
      ⟨none, none, .store 3 (.tmp 3) (.tmp 20)⟩,
      ⟨(some 4), none, .mov (.tmp 21)⟩] [1, 2, 3, 4])
  (.seq (.ops [⟨(some 23), none, .callF 41 []⟩,
      ⟨(some 24), none, .callF 23 [(.tmp 23), (.const (.string ⟨#[99, 104, 101, 115, 116]⟩)), (.const (.int .i64 950))]⟩,
      ⟨(some 22), none, .mov (.tmp 24)⟩,
      ⟨(some 25), none, .ext (.tmp 22) 0⟩,
      ⟨(some 26), none, .ext (.tmp 22) 1⟩,
      ⟨(some 5), none, .mov (.tmp 25)⟩,
      ⟨(some 6), none, .mov (.tmp 26)⟩] [1, 2, 3, 4, 5, 6])
  (.seq (.ops [⟨(some 28), none, .callF 41 []⟩,
      ⟨(some 29), none, .callF 17 [(.tmp 28), (.const (.int .i64 1)), (.const (.int .i64 1)), (.const (.int .i64 2))]⟩,
      ⟨(some 27), none, .mov (.tmp 29)⟩,
      ⟨(some 30), none, .ext (.tmp 27) 0⟩,
      ⟨(some 31), none, .ext (.tmp 27) 1⟩,
      ⟨(some 7), none, .mov (.tmp 30)⟩,
      ⟨(some 8), none, .mov (.tmp 31)⟩] [1, 2, 3, 4, 5, 6, 7, 8])
  (.seq (.ops [⟨(some 33), none, .callF 41 []⟩,
      ⟨(some 34), none, .callF 21 [(.tmp 33), (.const (.string ⟨#[120, 108]⟩))]⟩,
      ⟨(some 32), none, .mov (.tmp 34)⟩,
      ⟨(some 35), none, .ext (.tmp 32) 0⟩,
      ⟨(some 36), none, .ext (.tmp 32) 1⟩,
      ⟨(some 9), none, .alloc 25 [(3, (.slice none 0 0))]⟩,
      ⟨none, none, .store 3 (.tmp 9) (.tmp 35)⟩,
      ⟨(some 10), none, .mov (.tmp 36)⟩] [1, 2, 3, 4, 5, 6, 7, 8, 9, 10])
  (.seq (.ops [⟨(some 38), none, .callF 41 []⟩,
      ⟨(some 39), none, .callF 22 [(.tmp 38), (.const (.int .i64 50))]⟩,
      ⟨(some 37), none, .mov (.tmp 39)⟩,
      ⟨(some 40), none, .ext (.tmp 37) 0⟩,
      ⟨(some 41), none, .ext (.tmp 37) 1⟩,
      ⟨(some 11), none, .alloc 25 [(3, (.slice none 0 0))]⟩,
      ⟨none, none, .store 3 (.tmp 11) (.tmp 40)⟩,
      ⟨(some 12), none, .mov (.tmp 41)⟩] [1, 2, 3, 4, 5, 6, 7, 8, 9, 10, 11, 12])
  (.seq (.seq (.ops [⟨(some 42), none, .mov (.tmp 2)⟩,
      ⟨(some 43), none, .bin .neq (.tmp 42) (.const (.int .i64 0))⟩,
      ⟨(some 44), none, .mov (.tmp 43)⟩,
      ⟨(some 45), (some (44, false)), .mov (.tmp 4)⟩,
      ⟨(some 46), (some (44, false)), .bin .neq (.tmp 45) (.const (.int .i64 0))⟩,
      ⟨(some 47), none, .pick (.tmp 44) (.const (.bool true)) (.tmp 46)⟩,
      ⟨(some 48), none, .mov (.tmp 47)⟩,
      ⟨(some 49), (some (48, false)), .mov (.tmp 6)⟩,
      ⟨(some 50), (some (48, false)), .bin .neq (.tmp 49) (.const (.int .i64 0))⟩,
      ⟨(some 51), none, .pick (.tmp 48) (.const (.bool true)) (.tmp 50)⟩,
      ⟨(some 52), none, .mov (.tmp 51)⟩,
      ⟨(some 53), (some (52, false)), .mov (.tmp 8)⟩,
      ⟨(some 54), (some (52, false)), .bin .neq (.tmp 53) (.const (.int .i64 0))⟩,
      ⟨(some 55), none, .pick (.tmp 52) (.const (.bool true)) (.tmp 54)⟩,
      ⟨(some 56), none, .mov (.tmp 55)⟩,
      ⟨(some 57), (some (56, false)), .mov (.tmp 10)⟩,
      ⟨(some 58), (some (56, false)), .bin .neq (.tmp 57) (.const (.int .i64 0))⟩,
      ⟨(some 59), none, .pick (.tmp 56) (.const (.bool true)) (.tmp 58)⟩,
      ⟨(some 60), none, .mov (.tmp 59)⟩,
      ⟨(some 61), (some (60, false)), .mov (.tmp 12)⟩,
      ⟨(some 62), (some (60, false)), .bin .neq (.tmp 61) (.const (.int .i64 0))⟩,
      ⟨(some 63), none, .pick (.tmp 60) (.const (.bool true)) (.tmp 62)⟩,
      ⟨(some 64), none, .mov (.tmp 63)⟩,
      ⟨(some 65), (some (64, false)), .fldA 2 (.tmp 9)⟩,
      ⟨(some 66), (some (64, false)), .load none (.tmp 65)⟩,
      ⟨(some 67), (some (64, false)), .len false (.tmp 66)⟩,
      ⟨(some 68), (some (64, false)), .bin .neq (.tmp 67) (.const (.int .i64 2))⟩,
      ⟨(some 69), none, .pick (.tmp 64) (.const (.bool true)) (.tmp 68)⟩,
      ⟨(some 70), none, .mov (.tmp 69)⟩,
      ⟨(some 71), (some (70, false)), .fldA 2 (.tmp 9)⟩,
      ⟨(some 72), (some (70, false)), .load none (.tmp 71)⟩,
      ⟨(some 73), (some (70, false)), .idxS 1 (.tmp 72) (.const (.int .i64 0))⟩,
      ⟨(some 74), (some (70, false)), .load none (.tmp 73)⟩,
      ⟨(some 75), (some (70, false)), .len false (.tmp 74)⟩,
      ⟨(some 76), (some (70, false)), .bin .neq (.tmp 75) (.const (.int .i64 4))⟩,
      ⟨(some 77), none, .pick (.tmp 70) (.const (.bool true)) (.tmp 76)⟩,
      ⟨(some 78), none, .mov (.tmp 77)⟩,
      ⟨(some 79), (some (78, false)), .fldA 2 (.tmp 9)⟩,
      ⟨(some 80), (some (78, false)), .load none (.tmp 79)⟩,
      ⟨(some 81), (some (78, false)), .idxS 1 (.tmp 80) (.const (.int .i64 1))⟩,
      ⟨(some 82), (some (78, false)), .load none (.tmp 81)⟩,
      ⟨(some 83), (some (78, false)), .len false (.tmp 82)⟩,
      ⟨(some 84), (some (78, false)), .bin .neq (.tmp 83) (.const (.int .i64 4))⟩,
      ⟨(some 85), none, .pick (.tmp 78) (.const (.bool true)) (.tmp 84)⟩,
      ⟨(some 86), none, .mov (.tmp 85)⟩,
      ⟨(some 87), (some (86, false)), .fldA 2 (.tmp 11)⟩,
      ⟨(some 88), (some (86, false)), .load none (.tmp 87)⟩,
      ⟨(some 89), (some (86, false)), .len false (.tmp 88)⟩,
      ⟨(some 90), (some (86, false)), .bin .neq (.tmp 89) (.const (.int .i64 2))⟩,
      ⟨(some 91), none, .pick (.tmp 86) (.const (.bool true)) (.tmp 90)⟩] [1, 3, 5, 7, 9, 11, 91])
  (.cond (.tmp 91)
    (.seq (.ops [⟨(some 0), none, .mov (.const (.bool false))⟩] [0])
    (.ret))
    (.skip)))
  (.seq (.draw [⟨(some 92), none, .mov (.tmp 1)⟩,
      ⟨(some 93), none, .bin .eql (.tmp 92) (.const (.string ⟨#[115, 105, 122, 101, 32, 115, 32, 109, 32, 108, 10, 99, 104, 101, 115, 116, 32, 57, 48, 48, 32, 49, 48, 48, 48, 32, 49, 49, 53, 48, 10, 115, 108, 101, 101, 118, 101, 32, 53, 56, 48, 32, 54, 48, 48, 32, 54, 50, 48, 10]⟩))⟩,
      ⟨(some 94), none, .mov (.tmp 93)⟩,
      ⟨(some 95), (some (94, true)), .load (some 3) (.tmp 3)⟩,
      ⟨(some 96), (some (94, true)), .callF 41 []⟩,
      ⟨(some 97), (some (94, true)), .callF 14 [(.tmp 95), (.tmp 96)]⟩,
      ⟨(some 98), none, .pick (.tmp 94) (.tmp 97) (.const (.bool false))⟩,
      ⟨(some 99), none, .mov (.tmp 98)⟩,
      ⟨(some 100), (some (99, true)), .mov (.tmp 5)⟩,
      ⟨(some 101), (some (99, true)), .bin .eql (.tmp 100) (.const (.string ⟨#[109]⟩))⟩,
      ⟨(some 102), none, .pick (.tmp 99) (.tmp 101) (.const (.bool false))⟩,
      ⟨(some 103), none, .mov (.tmp 102)⟩,
      ⟨(some 104), (some (103, true)), .mov (.tmp 7)⟩,
      ⟨(some 105), (some (103, true)), .mkRow 3 1 2 [(.int .i64 0)] [(0, 1, (.const (.int .i64 1075))), (1, 1, (.const (.int .i64 610)))]⟩,
      ⟨(some 106), (some (103, true)), .callF 28 [(.tmp 104), (.tmp 105)]⟩,
      ⟨(some 107), none, .pick (.tmp 103) (.tmp 106) (.const (.bool false))⟩,
      ⟨(some 108), none, .mov (.tmp 107)⟩,
      ⟨(some 109), (some (108, true)), .fldA 2 (.tmp 9)⟩,
      ⟨(some 110), (some (108, true)), .load none (.tmp 109)⟩,
      ⟨(some 111), (some (108, true)), .idxS 1 (.tmp 110) (.const (.int .i64 0))⟩,
      ⟨(some 112), (some (108, true)), .load none (.tmp 111)⟩,
      ⟨(some 113), (some (108, true)), .idxS 1 (.tmp 112) (.const (.int .i64 3))⟩,
      ⟨(some 114), (some (108, true)), .load none (.tmp 113)⟩,
      ⟨(some 115), (some (108, true)), .bin .eql (.tmp 114) (.const (.int .i64 1300))⟩,
      ⟨(some 116), none, .pick (.tmp 108) (.tmp 115) (.const (.bool false))⟩,
      ⟨(some 117), none, .mov (.tmp 116)⟩,
      ⟨(some 118), (some (117, true)), .fldA 2 (.tmp 9)⟩,
      ⟨(some 119), (some (117, true)), .load none (.tmp 118)⟩,
      ⟨(some 120), (some (117, true)), .idxS 1 (.tmp 119) (.const (.int .i64 1))⟩,
      ⟨(some 121), (some (117, true)), .load none (.tmp 120)⟩,
      ⟨(some 122), (some (117, true)), .idxS 1 (.tmp 121) (.const (.int .i64 3))⟩,
      ⟨(some 123), (some (117, true)), .load none (.tmp 122)⟩,
      ⟨(some 124), (some (117, true)), .bin .eql (.tmp 123) (.const (.int .i64 640))⟩,
      ⟨(some 125), none, .pick (.tmp 117) (.tmp 124) (.const (.bool false))⟩,
      ⟨(some 126), none, .mov (.tmp 125)⟩,
      ⟨(some 127), (some (126, true)), .fldA 2 (.tmp 11)⟩,
      ⟨(some 128), (some (126, true)), .load none (.tmp 127)⟩,
      ⟨(some 129), (some (126, true)), .idxS 1 (.tmp 128) (.const (.int .i64 0))⟩,
      ⟨(some 130), (some (126, true)), .load none (.tmp 129)⟩,
      ⟨(some 131), (some (126, true)), .mkRow 3 1 3 [(.int .i64 0)] [(0, 1, (.const (.int .i64 900))), (1, 1, (.const (.int .i64 1000))), (2, 1, (.const (.int .i64 1150)))]⟩,
      ⟨(some 132), (some (126, true)), .callF 28 [(.tmp 130), (.tmp 131)]⟩,
      ⟨(some 133), none, .pick (.tmp 126) (.tmp 132) (.const (.bool false))⟩,
      ⟨(some 134), none, .mov (.tmp 133)⟩,
      ⟨(some 135), (some (134, true)), .fldA 2 (.tmp 11)⟩,
      ⟨(some 136), (some (134, true)), .load none (.tmp 135)⟩,
      ⟨(some 137), (some (134, true)), .idxS 1 (.tmp 136) (.const (.int .i64 1))⟩,
      ⟨(some 138), (some (134, true)), .load none (.tmp 137)⟩,
      ⟨(some 139), (some (134, true)), .mkRow 3 1 3 [(.int .i64 0)] [(0, 1, (.const (.int .i64 600))), (1, 1, (.const (.int .i64 600))), (2, 1, (.const (.int .i64 600)))]⟩] [⟨(some 140), (some (134, true)), .callF 28 [(.tmp 138), (.tmp 139)]⟩,
      ⟨(some 141), none, .pick (.tmp 134) (.tmp 140) (.const (.bool false))⟩,
      ⟨(some 0), none, .mov (.tmp 141)⟩] [[], [], [], [], [], [], [], [], [], [], [], [], [], [], [], [], [], [], [], [], [], [], [], [], [], [], [], [], [], [], [], [], [], [], [], [], [], [], [], [], [], [], [], [], [], [], [], []] [0])
  (.ret))))))))),
  142, [(0, none)], true⟩
theorem ok15 : FunOK Tryd.prog 15 c15 := ⟨⟨Tryd.f15, _, c15.code, Tryd.func15, rfl, by kernel_rfl, rfl, by kernel_rfl, by kernel_rfl⟩⟩
/- raddle/raddleref40.Check -/
def c16l0 : AC :=
  .seq (.seq (.ops [⟨(some 39), none, .mov (.tmp 3)⟩,
          ⟨(some 40), none, .fldA 2 (.tmp 1)⟩,
          ⟨(some 41), none, .load none (.tmp 40)⟩,
          ⟨(some 42), none, .len false (.tmp 41)⟩,
          ⟨(some 43), none, .bin .lss (.tmp 39) (.tmp 42)⟩] [1, 3, 43])
      (.cond (.tmp 43)
        (.skip)
        (.exit 0)))
      (.seq (.block 1
        (.seq (.draw [⟨(some 46), none, .fldA 2 (.tmp 1)⟩,
            ⟨(some 47), none, .load none (.tmp 46)⟩,
            ⟨(some 48), none, .mov (.tmp 3)⟩,
            ⟨(some 49), none, .idxS 1 (.tmp 47) (.tmp 48)⟩,
            ⟨(some 50), none, .load none (.tmp 49)⟩,
            ⟨(some 51), none, .fldA 0 (.tmp 1)⟩,
            ⟨(some 52), none, .load none (.tmp 51)⟩,
            ⟨(some 53), none, .len false (.tmp 52)⟩] [⟨(some 54), none, .callF 43 [(.tmp 50), (.tmp 53)]⟩,
            ⟨(some 55), none, .un .not (.tmp 54)⟩] [[], [], [], [], [], [], [], []] [1, 3, 55])
        (.cond (.tmp 55)
          (.seq (.ops [⟨(some 2), none, .mov (.const (.int .i64 8))⟩] [2])
          (.ret))
          (.skip))))
      (.ops [⟨(some 44), none, .mov (.tmp 3)⟩,
          ⟨(some 45), none, .bin .add (.tmp 44) (.const (.int .i64 1))⟩,
          ⟨(some 3), none, .mov (.tmp 45)⟩] [1, 3]))
def c16 : AFun := ⟨
  .seq (.ops [⟨(some 1), none, .box 25 (.tmp 0)⟩,
      ⟨(some 2), none, .mov (.const (.int .i64 0))⟩] [1])
  (.seq (.seq (.ops [⟨(some 4), none, .fldA 0 (.tmp 1)⟩,
      ⟨(some 5), none, .load none (.tmp 4)⟩,
      ⟨(some 6), none, .len false (.tmp 5)⟩,
      ⟨(some 7), none, .bin .gtr (.tmp 6) (.const (.int .i64 20))⟩,
      ⟨(some 8), none, .mov (.tmp 7)⟩,
      ⟨(some 9), (some (8, false)), .fldA 1 (.tmp 1)⟩,
      ⟨(some 10), (some (8, false)), .load none (.tmp 9)⟩,
      ⟨(some 11), (some (8, false)), .len false (.tmp 10)⟩,
      ⟨(some 12), (some (8, false)), .bin .gtr (.tmp 11) (.const (.int .i64 30))⟩,
      ⟨(some 13), none, .pick (.tmp 8) (.const (.bool true)) (.tmp 12)⟩] [1, 13])
  (.cond (.tmp 13)
    (.seq (.ops [⟨(some 2), none, .mov (.const (.int .i64 4))⟩] [2])
    (.ret))
    (.skip)))
  (.seq (.seq (.ops [⟨(some 14), none, .fldA 0 (.tmp 1)⟩,
      ⟨(some 15), none, .load none (.tmp 14)⟩,
      ⟨(some 16), none, .callF 42 [(.tmp 15)]⟩,
      ⟨(some 17), none, .un .not (.tmp 16)⟩,
      ⟨(some 18), none, .mov (.tmp 17)⟩,
      ⟨(some 19), (some (18, false)), .fldA 1 (.tmp 1)⟩,
      ⟨(some 20), (some (18, false)), .load none (.tmp 19)⟩,
      ⟨(some 21), (some (18, false)), .callF 42 [(.tmp 20)]⟩,
      ⟨(some 22), (some (18, false)), .un .not (.tmp 21)⟩,
      ⟨(some 23), none, .pick (.tmp 18) (.const (.bool true)) (.tmp 22)⟩,
      ⟨(some 24), none, .mov (.tmp 23)⟩,
      ⟨(some 25), (some (24, false)), .fldA 1 (.tmp 1)⟩,
      ⟨(some 26), (some (24, false)), .load none (.tmp 25)⟩,
      ⟨(some 27), (some (24, false)), .callF 24 [(.tmp 26), (.const (.string ⟨#[115, 105, 122, 101]⟩))]⟩,
      ⟨(some 28), (some (24, false)), .bin .geq (.tmp 27) (.const (.int .i64 0))⟩,
      ⟨(some 29), none, .pick (.tmp 24) (.const (.bool true)) (.tmp 28)⟩,
      ⟨(some 30), none, .mov (.tmp 29)⟩,
      ⟨(some 31), (some (30, false)), .fldA 2 (.tmp 1)⟩,
      ⟨(some 32), (some (30, false)), .load none (.tmp 31)⟩,
      ⟨(some 33), (some (30, false)), .len false (.tmp 32)⟩,
      ⟨(some 34), (some (30, false)), .fldA 1 (.tmp 1)⟩,
      ⟨(some 35), (some (30, false)), .load none (.tmp 34)⟩,
      ⟨(some 36), (some (30, false)), .len false (.tmp 35)⟩,
      ⟨(some 37), (some (30, false)), .bin .neq (.tmp 33) (.tmp 36)⟩,
      ⟨(some 38), none, .pick (.tmp 30) (.const (.bool true)) (.tmp 37)⟩] [1, 38])
  (.cond (.tmp 38)
    (.seq (.ops [⟨(some 2), none, .mov (.const (.int .i64 8))⟩] [2])
    (.ret))
    (.skip)))
  (.seq (.seq (.ops [⟨(some 3), none, .mov (.const (.int .i64 0))⟩] [1, 3])
  (.block 0
    (.loop [1, 3]
      c16l0)))
  (.seq (.seq (.ops [⟨(some 56), none, .fldA 0 (.tmp 1)⟩,
      ⟨(some 57), none, .load none (.tmp 56)⟩,
      ⟨(some 58), none, .callF 44 [(.tmp 57)]⟩,
      ⟨(some 59), none, .mov (.tmp 58)⟩,
      ⟨(some 60), (some (59, false)), .fldA 1 (.tmp 1)⟩,
      ⟨(some 61), (some (59, false)), .load none (.tmp 60)⟩,
      ⟨(some 62), (some (59, false)), .callF 44 [(.tmp 61)]⟩,
      ⟨(some 63), none, .pick (.tmp 59) (.const (.bool true)) (.tmp 62)⟩] [63])
  (.cond (.tmp 63)
    (.seq (.ops [⟨(some 2), none, .mov (.const (.int .i64 14))⟩] [2])
    (.ret))
    (.skip)))
  (.seq (.ops [⟨(some 2), none, .mov (.const (.int .i64 0))⟩] [2])
  (.ret)))))),
  64, [(2, none)], true⟩
theorem ok16 : FunOK Tryd.prog 16 c16 := ⟨⟨Tryd.f16, _, c16.code, Tryd.func16, rfl, by kernel_rfl, rfl, by kernel_rfl, by kernel_rfl⟩⟩
/- raddle/grade.Between -/
def c17l0 : AC :=
  .seq (.ops [⟨(some 54), none, .bin .lss (.tmp 53) (.tmp 52)⟩] [1, 2, 3, 11, 51, 52, 53, 54])
      (.seq (.cond (.tmp 54)
        (.skip)
        (.exit 0))
      (.seq (.block 1
        (.seq (.ops [⟨(some 55), none, .mov (.tmp 53)⟩,
            ⟨(some 56), none, .idxS 1 (.tmp 51) (.tmp 53)⟩,
            ⟨(some 57), none, .load none (.tmp 56)⟩,
            ⟨(some 12), none, .mov (.tmp 55)⟩,
            ⟨(some 13), none, .mov (.tmp 57)⟩] [1, 2, 3, 11, 12, 13, 51, 52, 53])
        (.draw [⟨(some 58), none, .mov (.tmp 11)⟩,
            ⟨(some 59), none, .mov (.tmp 12)⟩,
            ⟨(some 60), none, .mov (.tmp 13)⟩,
            ⟨(some 61), none, .mov (.tmp 1)⟩,
            ⟨(some 62), none, .idxS 1 (.tmp 60) (.tmp 61)⟩,
            ⟨(some 63), none, .load none (.tmp 62)⟩,
            ⟨(some 64), none, .mov (.tmp 3)⟩,
            ⟨(some 65), none, .mov (.tmp 2)⟩,
            ⟨(some 66), none, .bin .sub (.tmp 64) (.tmp 65)⟩,
            ⟨(some 67), none, .bin .mul (.tmp 63) (.tmp 66)⟩,
            ⟨(some 68), none, .mov (.tmp 13)⟩,
            ⟨(some 69), none, .mov (.tmp 1)⟩,
            ⟨(some 70), none, .bin .add (.tmp 69) (.const (.int .i64 1))⟩,
            ⟨(some 71), none, .idxS 1 (.tmp 68) (.tmp 70)⟩,
            ⟨(some 72), none, .load none (.tmp 71)⟩,
            ⟨(some 73), none, .mov (.tmp 2)⟩,
            ⟨(some 74), none, .bin .mul (.tmp 72) (.tmp 73)⟩,
            ⟨(some 75), none, .bin .add (.tmp 67) (.tmp 74)⟩,
            ⟨(some 76), none, .bin .mul (.const (.int .i64 2)) (.tmp 75)⟩,
            ⟨(some 77), none, .mov (.tmp 3)⟩,
            ⟨(some 78), none, .bin .add (.tmp 76) (.tmp 77)⟩,
            ⟨(some 79), none, .mov (.tmp 3)⟩,
            ⟨(some 80), none, .bin .mul (.const (.int .i64 2)) (.tmp 79)⟩,
            ⟨(some 81), none, .bin .quo (.tmp 78) (.tmp 80)⟩] [⟨(some 82), none, .idxS 1 (.tmp 58) (.tmp 59)⟩,
            ⟨none, none, .store 1 (.tmp 82) (.tmp 81)⟩] [[], [], [], [], [], [], [], [], [], [], [], [], [], [], [], [], [], [], [], [], [], [], [], []] [1, 2, 3, 11, 51, 52, 53])))
      (.ops [⟨(some 83), none, .bin .add (.tmp 53) (.const (.int .i64 1))⟩,
          ⟨(some 53), none, .mov (.tmp 83)⟩] [1, 2, 3, 11, 51, 52, 53])))
def c17 : AFun := ⟨
  .seq (.ops [⟨(some 4), none, .box 25 (.tmp 0)⟩,
      ⟨(some 8), none, .mov (.const (.slice none 0 0))⟩,
      ⟨(some 9), none, .mov (.const (.int .i64 0))⟩] [1, 2, 3, 4])
  (.seq (.seq (.ops [⟨(some 14), none, .load (some 3) (.tmp 4)⟩,
      ⟨(some 15), none, .callF 19 [(.tmp 14)]⟩,
      ⟨(some 10), none, .mov (.tmp 15)⟩] [1, 2, 3, 4, 10])
  (.seq (.ops [⟨(some 16), none, .mov (.tmp 10)⟩,
      ⟨(some 17), none, .bin .neq (.tmp 16) (.const (.int .i64 0))⟩] [1, 2, 3, 4, 10, 17])
  (.cond (.tmp 17)
    (.seq (.ops [⟨(some 18), none, .mov (.tmp 10)⟩,
        ⟨(some 8), none, .mov (.const (.slice none 0 0))⟩,
        ⟨(some 9), none, .mov (.tmp 18)⟩] [8, 9])
    (.ret))
    (.skip))))
  (.seq (.seq (.ops [⟨(some 19), none, .mov (.tmp 1)⟩,
      ⟨(some 20), none, .bin .lss (.tmp 19) (.const (.int .i64 0))⟩,
      ⟨(some 21), none, .mov (.tmp 20)⟩,
      ⟨(some 22), (some (21, false)), .mov (.tmp 1)⟩,
      ⟨(some 23), (some (21, false)), .fldA 0 (.tmp 4)⟩,
      ⟨(some 24), (some (21, false)), .load none (.tmp 23)⟩,
      ⟨(some 25), (some (21, false)), .len false (.tmp 24)⟩,
      ⟨(some 26), (some (21, false)), .bin .sub (.tmp 25) (.const (.int .i64 1))⟩,
      ⟨(some 27), (some (21, false)), .bin .geq (.tmp 22) (.tmp 26)⟩,
      ⟨(some 28), none, .pick (.tmp 21) (.const (.bool true)) (.tmp 27)⟩,
      ⟨(some 29), none, .mov (.tmp 28)⟩,
      ⟨(some 30), (some (29, false)), .mov (.tmp 3)⟩,
      ⟨(some 31), (some (29, false)), .bin .lss (.tmp 30) (.const (.int .i64 1))⟩,
      ⟨(some 32), none, .pick (.tmp 29) (.const (.bool true)) (.tmp 31)⟩,
      ⟨(some 33), none, .mov (.tmp 32)⟩,
      ⟨(some 34), (some (33, false)), .mov (.tmp 3)⟩,
      ⟨(some 35), (some (33, false)), .bin .gtr (.tmp 34) (.const (.int .i64 1000))⟩,
      ⟨(some 36), none, .pick (.tmp 33) (.const (.bool true)) (.tmp 35)⟩,
      ⟨(some 37), none, .mov (.tmp 36)⟩,
      ⟨(some 38), (some (37, false)), .mov (.tmp 2)⟩,
      ⟨(some 39), (some (37, false)), .bin .lss (.tmp 38) (.const (.int .i64 0))⟩,
      ⟨(some 40), none, .pick (.tmp 37) (.const (.bool true)) (.tmp 39)⟩,
      ⟨(some 41), none, .mov (.tmp 40)⟩,
      ⟨(some 42), (some (41, false)), .mov (.tmp 2)⟩,
      ⟨(some 43), (some (41, false)), .mov (.tmp 3)⟩,
      ⟨(some 44), (some (41, false)), .bin .gtr (.tmp 42) (.tmp 43)⟩,
      ⟨(some 45), none, .pick (.tmp 41) (.const (.bool true)) (.tmp 44)⟩] [1, 2, 3, 4, 45])
  (.cond (.tmp 45)
    (.seq (.ops [⟨(some 8), none, .mov (.const (.slice none 0 0))⟩,
        ⟨(some 9), none, .mov (.const (.int .i64 2))⟩] [8, 9])
    (.ret))
    (.skip)))
  (.seq (.ops [⟨(some 46), none, .fldA 2 (.tmp 4)⟩,
      ⟨(some 47), none, .load none (.tmp 46)⟩,
      ⟨(some 48), none, .len false (.tmp 47)⟩,
      ⟨(some 49), none, .mkSlice 3 1 8 [(.int .i64 0)] (.tmp 48) (.tmp 48)⟩,
      ⟨(some 11), none, .mov (.tmp 49)⟩] [1, 2, 3, 4, 11])
  (.seq (.seq (.ops [⟨(some 50), none, .fldA 2 (.tmp 4)⟩,
      ⟨(some 51), none, .load none (.tmp 50)⟩,
      ⟨(some 52), none, .len false (.tmp 51)⟩,
      ⟨(some 53), none, .mov (.const (.int .i64 0))⟩] [1, 2, 3, 11, 51, 52, 53])
  (.block 0
    (.loop [1, 2, 3, 11, 51, 52, 53]
      c17l0)))
  (.seq (.ops [⟨(some 84), none, .mov (.tmp 11)⟩,
      ⟨(some 8), none, .mov (.tmp 84)⟩,
      ⟨(some 9), none, .mov (.const (.int .i64 0))⟩] [8, 9])
  (.ret)))))),
  85, [(8, none), (9, none)], true⟩
theorem ok17 : FunOK Tryd.prog 17 c17 := ⟨⟨Tryd.f17, _, c17.code, Tryd.func17, rfl, by kernel_rfl, rfl, by kernel_rfl, by kernel_rfl⟩⟩
/- raddle/grade.Check -/
def c19l0 : AC :=
  .seq (.ops [⟨(some 71), none, .bin .lss (.tmp 70) (.tmp 69)⟩] [1, 4, 6, 9, 56, 57, 58, 68, 69, 70, 71])
            (.seq (.cond (.tmp 71)
              (.skip)
              (.exit 2))
            (.seq (.block 3
              (.seq (.ops [⟨(some 72), none, .idxS 1 (.tmp 68) (.tmp 70)⟩,
                  ⟨(some 73), none, .load none (.tmp 72)⟩,
                  ⟨(some 11), none, .mov (.tmp 73)⟩] [1, 4, 6, 9, 11, 56, 57, 58, 68, 69, 70])
              (.seq (.seq (.ops [⟨(some 74), none, .mov (.tmp 11)⟩,
                  ⟨(some 75), none, .mov (.tmp 9)⟩,
                  ⟨(some 76), none, .bin .lss (.tmp 74) (.tmp 75)⟩,
                  ⟨(some 77), none, .mov (.tmp 76)⟩,
                  ⟨(some 78), (some (77, false)), .mov (.tmp 11)⟩,
                  ⟨(some 79), (some (77, false)), .bin .gtr (.tmp 78) (.const (.int .i64 1000000))⟩,
                  ⟨(some 80), none, .pick (.tmp 77) (.const (.bool true)) (.tmp 79)⟩] [1, 4, 6, 11, 56, 57, 58, 68, 69, 70, 80])
              (.cond (.tmp 80)
                (.seq (.ops [⟨(some 2), none, .mov (.const (.int .i64 8))⟩] [2])
                (.ret))
                (.skip)))
              (.ops [⟨(some 81), none, .mov (.tmp 11)⟩,
                  ⟨(some 9), none, .mov (.tmp 81)⟩] [1, 4, 6, 9, 56, 57, 58, 68, 69, 70]))))
            (.ops [⟨(some 82), none, .bin .add (.tmp 70) (.const (.int .i64 1))⟩,
                ⟨(some 70), none, .mov (.tmp 82)⟩] [1, 4, 6, 9, 56, 57, 58, 68, 69, 70])))
def c19l1 : AC :=
  .seq (.ops [⟨(some 59), none, .bin .lss (.tmp 58) (.tmp 57)⟩] [1, 4, 6, 56, 57, 58, 59])
      (.seq (.cond (.tmp 59)
        (.skip)
        (.exit 0))
      (.seq (.block 1
        (.seq (.ops [⟨(some 60), none, .idxS 1 (.tmp 56) (.tmp 58)⟩,
            ⟨(some 61), none, .load none (.tmp 60)⟩,
            ⟨(some 8), none, .mov (.tmp 61)⟩] [1, 4, 6, 8, 56, 57, 58])
        (.seq (.seq (.ops [⟨(some 62), none, .mov (.tmp 8)⟩,
            ⟨(some 63), none, .len false (.tmp 62)⟩,
            ⟨(some 64), none, .fldA 0 (.tmp 1)⟩,
            ⟨(some 65), none, .load none (.tmp 64)⟩,
            ⟨(some 66), none, .len false (.tmp 65)⟩,
            ⟨(some 67), none, .bin .neq (.tmp 63) (.tmp 66)⟩] [1, 4, 6, 8, 56, 57, 58, 67])
        (.cond (.tmp 67)
          (.seq (.ops [⟨(some 2), none, .mov (.const (.int .i64 8))⟩] [2])
          (.ret))
          (.skip)))
        (.seq (.ops [⟨(some 9), none, .mov (.const (.int .i64 0))⟩] [1, 4, 6, 8, 9, 56, 57, 58])
        (.seq (.ops [⟨(some 68), none, .mov (.tmp 8)⟩,
            ⟨(some 69), none, .len false (.tmp 68)⟩,
            ⟨(some 70), none, .mov (.const (.int .i64 0))⟩] [1, 4, 6, 9, 56, 57, 58, 68, 69, 70])
        (.block 2
          (.loop [1, 4, 6, 9, 56, 57, 58, 68, 69, 70]
            c19l0)))))))
      (.ops [⟨(some 83), none, .bin .add (.tmp 58) (.const (.int .i64 1))⟩,
          ⟨(some 58), none, .mov (.tmp 83)⟩] [1, 4, 6, 56, 57, 58])))
def c19 : AFun := ⟨
  .seq (.ops [⟨(some 1), none, .box 25 (.tmp 0)⟩,
      ⟨(some 2), none, .mov (.const (.int .i64 0))⟩] [1])
  (.seq (.seq (.ops [⟨(some 12), none, .fldA 0 (.tmp 1)⟩,
      ⟨(some 13), none, .load none (.tmp 12)⟩,
      ⟨(some 14), none, .len false (.tmp 13)⟩,
      ⟨(some 15), none, .bin .gtr (.tmp 14) (.const (.int .i64 20))⟩,
      ⟨(some 16), none, .mov (.tmp 15)⟩,
      ⟨(some 17), (some (16, false)), .fldA 1 (.tmp 1)⟩,
      ⟨(some 18), (some (16, false)), .load none (.tmp 17)⟩,
      ⟨(some 19), (some (16, false)), .len false (.tmp 18)⟩,
      ⟨(some 20), (some (16, false)), .bin .gtr (.tmp 19) (.const (.int .i64 30))⟩,
      ⟨(some 21), none, .pick (.tmp 16) (.const (.bool true)) (.tmp 20)⟩] [1, 21])
  (.cond (.tmp 21)
    (.seq (.ops [⟨(some 2), none, .mov (.const (.int .i64 4))⟩] [2])
    (.ret))
    (.skip)))
  (.seq (.ops [⟨(some 23), none, .fldA 0 (.tmp 1)⟩,
      ⟨(some 24), none, .load none (.tmp 23)⟩,
      ⟨(some 25), none, .callF 47 [(.tmp 24)]⟩,
      ⟨(some 22), none, .mov (.tmp 25)⟩,
      ⟨(some 26), none, .ext (.tmp 22) 0⟩,
      ⟨(some 27), none, .ext (.tmp 22) 1⟩,
      ⟨(some 3), none, .mov (.tmp 26)⟩,
      ⟨(some 4), none, .mov (.tmp 27)⟩] [1, 3, 4])
  (.seq (.ops [⟨(some 29), none, .fldA 1 (.tmp 1)⟩,
      ⟨(some 30), none, .load none (.tmp 29)⟩,
      ⟨(some 31), none, .callF 47 [(.tmp 30)]⟩,
      ⟨(some 28), none, .mov (.tmp 31)⟩,
      ⟨(some 32), none, .ext (.tmp 28) 0⟩,
      ⟨(some 33), none, .ext (.tmp 28) 1⟩,
      ⟨(some 5), none, .mov (.tmp 32)⟩,
      ⟨(some 6), none, .mov (.tmp 33)⟩] [1, 3, 4, 5, 6])
  (.seq (.seq (.ops [⟨(some 34), none, .mov (.tmp 3)⟩,
      ⟨(some 35), none, .un .not (.tmp 34)⟩,
      ⟨(some 36), none, .mov (.tmp 35)⟩,
      ⟨(some 37), (some (36, false)), .mov (.tmp 5)⟩,
      ⟨(some 38), (some (36, false)), .un .not (.tmp 37)⟩,
      ⟨(some 39), none, .pick (.tmp 36) (.const (.bool true)) (.tmp 38)⟩,
      ⟨(some 40), none, .mov (.tmp 39)⟩,
      ⟨(some 41), (some (40, false)), .fldA 1 (.tmp 1)⟩,
      ⟨(some 42), (some (40, false)), .load none (.tmp 41)⟩,
      ⟨(some 43), (some (40, false)), .callF 48 [(.tmp 42), (.const (.string ⟨#[115, 105, 122, 101]⟩))]⟩,
      ⟨(some 44), (some (40, false)), .bin .geq (.tmp 43) (.const (.int .i64 0))⟩,
      ⟨(some 45), none, .pick (.tmp 40) (.const (.bool true)) (.tmp 44)⟩,
      ⟨(some 46), none, .mov (.tmp 45)⟩,
      ⟨(some 47), (some (46, false)), .fldA 2 (.tmp 1)⟩,
      ⟨(some 48), (some (46, false)), .load none (.tmp 47)⟩,
      ⟨(some 49), (some (46, false)), .len false (.tmp 48)⟩,
      ⟨(some 50), (some (46, false)), .fldA 1 (.tmp 1)⟩,
      ⟨(some 51), (some (46, false)), .load none (.tmp 50)⟩,
      ⟨(some 52), (some (46, false)), .len false (.tmp 51)⟩,
      ⟨(some 53), (some (46, false)), .bin .neq (.tmp 49) (.tmp 52)⟩,
      ⟨(some 54), none, .pick (.tmp 46) (.const (.bool true)) (.tmp 53)⟩] [1, 4, 6, 54])
  (.cond (.tmp 54)
    (.seq (.ops [⟨(some 2), none, .mov (.const (.int .i64 8))⟩] [2])
    (.ret))
    (.skip)))
  (.seq (.seq (.ops [⟨(some 55), none, .fldA 2 (.tmp 1)⟩,
      ⟨(some 56), none, .load none (.tmp 55)⟩,
      ⟨(some 57), none, .len false (.tmp 56)⟩,
      ⟨(some 58), none, .mov (.const (.int .i64 0))⟩] [1, 4, 6, 56, 57, 58])
  (.block 0
    (.loop [1, 4, 6, 56, 57, 58]
      c19l1)))
  (.seq (.seq (.ops [⟨(some 84), none, .mov (.tmp 4)⟩,
      ⟨(some 85), none, .mov (.tmp 84)⟩,
      ⟨(some 86), (some (85, false)), .mov (.tmp 6)⟩,
      ⟨(some 87), none, .pick (.tmp 85) (.const (.bool true)) (.tmp 86)⟩] [87])
  (.cond (.tmp 87)
    (.seq (.ops [⟨(some 2), none, .mov (.const (.int .i64 14))⟩] [2])
    (.ret))
    (.skip)))
  (.seq (.ops [⟨(some 2), none, .mov (.const (.int .i64 0))⟩] [2])
  (.ret)))))))),
  88, [(2, none)], true⟩
theorem ok19 : FunOK Tryd.prog 19 c19 := ⟨⟨Tryd.f19, _, c19.code, Tryd.func19, rfl, by kernel_rfl, rfl, by kernel_rfl, by kernel_rfl⟩⟩
/- raddle/grade.Next -/
def c21l0 : AC :=
  .seq (.ops [⟨(some 39), none, .bin .lss (.tmp 38) (.tmp 37)⟩] [1, 2, 4, 7, 9, 36, 37, 38, 39])
      (.seq (.cond (.tmp 39)
        (.skip)
        (.exit 0))
      (.seq (.block 1
        (.seq (.ops [⟨(some 40), none, .mov (.tmp 38)⟩,
            ⟨(some 41), none, .idxS 1 (.tmp 36) (.tmp 38)⟩,
            ⟨(some 42), none, .load none (.tmp 41)⟩,
            ⟨(some 10), none, .mov (.tmp 40)⟩,
            ⟨(some 11), none, .mov (.tmp 42)⟩] [1, 2, 4, 7, 9, 10, 11, 36, 37, 38])
        (.seq (.draw [⟨(some 43), none, .mov (.tmp 9)⟩,
            ⟨(some 44), none, .mov (.tmp 10)⟩,
            ⟨(some 45), none, .mov (.tmp 11)⟩,
            ⟨(some 46), none, .mov (.tmp 7)⟩,
            ⟨(some 47), none, .bin .sub (.tmp 46) (.const (.int .i64 1))⟩,
            ⟨(some 48), none, .idxS 1 (.tmp 45) (.tmp 47)⟩,
            ⟨(some 49), none, .load none (.tmp 48)⟩,
            ⟨(some 50), none, .bin .mul (.const (.int .i64 2)) (.tmp 49)⟩,
            ⟨(some 51), none, .mov (.tmp 11)⟩,
            ⟨(some 52), none, .mov (.tmp 7)⟩,
            ⟨(some 53), none, .bin .sub (.tmp 52) (.const (.int .i64 2))⟩,
            ⟨(some 54), none, .idxS 1 (.tmp 51) (.tmp 53)⟩,
            ⟨(some 55), none, .load none (.tmp 54)⟩,
            ⟨(some 56), none, .bin .sub (.tmp 50) (.tmp 55)⟩] [⟨(some 57), none, .idxS 1 (.tmp 43) (.tmp 44)⟩,
            ⟨none, none, .store 1 (.tmp 57) (.tmp 56)⟩] [[], [], [], [], [], [], [], [], [], [], [], [], [], []] [1, 2, 4, 7, 9, 10, 36, 37, 38])
        (.seq (.ops [⟨(some 58), none, .mov (.tmp 9)⟩,
            ⟨(some 59), none, .mov (.tmp 10)⟩,
            ⟨(some 60), none, .idxS 1 (.tmp 58) (.tmp 59)⟩,
            ⟨(some 61), none, .load none (.tmp 60)⟩,
            ⟨(some 62), none, .bin .gtr (.tmp 61) (.const (.int .i64 1000000))⟩] [1, 2, 4, 7, 9, 36, 37, 38, 62])
        (.cond (.tmp 62)
          (.seq (.ops [⟨(some 63), none, .build [(.slice none 0 0), (.slice none 0 0), (.slice none 0 0)] []⟩,
              ⟨none, none, .store 3 (.tmp 4) (.tmp 63)⟩,
              ⟨(some 5), none, .mov (.const (.int .i64 16))⟩] [4, 5])
          (.ret))
          (.skip))))))
      (.ops [⟨(some 64), none, .bin .add (.tmp 38) (.const (.int .i64 1))⟩,
          ⟨(some 38), none, .mov (.tmp 64)⟩] [1, 2, 4, 7, 9, 36, 37, 38])))
def c21 : AFun := ⟨
  .seq (.ops [⟨(some 2), none, .box 25 (.tmp 0)⟩,
      ⟨(some 4), none, .alloc 25 [(3, (.slice none 0 0))]⟩,
      ⟨(some 5), none, .mov (.const (.int .i64 0))⟩] [1, 2, 4])
  (.seq (.seq (.ops [⟨(some 12), none, .load (some 3) (.tmp 2)⟩,
      ⟨(some 13), none, .callF 19 [(.tmp 12)]⟩,
      ⟨(some 6), none, .mov (.tmp 13)⟩] [1, 2, 4, 6])
  (.seq (.ops [⟨(some 14), none, .mov (.tmp 6)⟩,
      ⟨(some 15), none, .bin .neq (.tmp 14) (.const (.int .i64 0))⟩] [1, 2, 4, 6, 15])
  (.cond (.tmp 15)
    (.seq (.ops [⟨(some 16), none, .build [(.slice none 0 0), (.slice none 0 0), (.slice none 0 0)] []⟩,
        ⟨(some 17), none, .mov (.tmp 6)⟩,
        ⟨none, none, .store 3 (.tmp 4) (.tmp 16)⟩,
        ⟨(some 5), none, .mov (.tmp 17)⟩] [4, 5])
    (.ret))
    (.skip))))
  (.seq (.ops [⟨(some 18), none, .fldA 0 (.tmp 2)⟩,
      ⟨(some 19), none, .load none (.tmp 18)⟩,
      ⟨(some 20), none, .len false (.tmp 19)⟩,
      ⟨(some 7), none, .mov (.tmp 20)⟩] [1, 2, 4, 7])
  (.seq (.seq (.ops [⟨(some 21), none, .mov (.tmp 7)⟩,
      ⟨(some 22), none, .bin .lss (.tmp 21) (.const (.int .i64 2))⟩] [1, 2, 4, 7, 22])
  (.cond (.tmp 22)
    (.seq (.ops [⟨(some 23), none, .build [(.slice none 0 0), (.slice none 0 0), (.slice none 0 0)] []⟩,
        ⟨none, none, .store 3 (.tmp 4) (.tmp 23)⟩,
        ⟨(some 5), none, .mov (.const (.int .i64 22))⟩] [4, 5])
    (.ret))
    (.skip)))
  (.seq (.seq (.ops [⟨(some 24), none, .load (some 3) (.tmp 2)⟩,
      ⟨(some 25), none, .mov (.tmp 1)⟩,
      ⟨(some 26), none, .callF 45 [(.tmp 24), (.tmp 25)]⟩,
      ⟨(some 8), none, .mov (.tmp 26)⟩] [1, 2, 4, 7, 8])
  (.seq (.ops [⟨(some 27), none, .mov (.tmp 8)⟩,
      ⟨(some 28), none, .bin .neq (.tmp 27) (.const (.int .i64 0))⟩] [1, 2, 4, 7, 8, 28])
  (.cond (.tmp 28)
    (.seq (.ops [⟨(some 29), none, .build [(.slice none 0 0), (.slice none 0 0), (.slice none 0 0)] []⟩,
        ⟨(some 30), none, .mov (.tmp 8)⟩,
        ⟨none, none, .store 3 (.tmp 4) (.tmp 29)⟩,
        ⟨(some 5), none, .mov (.tmp 30)⟩] [4, 5])
    (.ret))
    (.skip))))
  (.seq (.ops [⟨(some 31), none, .fldA 2 (.tmp 2)⟩,
      ⟨(some 32), none, .load none (.tmp 31)⟩,
      ⟨(some 33), none, .len false (.tmp 32)⟩,
      ⟨(some 34), none, .mkSlice 3 1 8 [(.int .i64 0)] (.tmp 33) (.tmp 33)⟩,
      ⟨(some 9), none, .mov (.tmp 34)⟩] [1, 2, 4, 7, 9])
  (.seq (.seq (.ops [⟨(some 35), none, .fldA 2 (.tmp 2)⟩,
      ⟨(some 36), none, .load none (.tmp 35)⟩,
      ⟨(some 37), none, .len false (.tmp 36)⟩,
      ⟨(some 38), none, .mov (.const (.int .i64 0))⟩] [1, 2, 4, 7, 9, 36, 37, 38])
  (.block 0
    (.loop [1, 2, 4, 7, 9, 36, 37, 38]
      c21l0)))
  (.seq (.ops [⟨(some 65), none, .load (some 3) (.tmp 2)⟩,
      ⟨(some 66), none, .mov (.tmp 7)⟩,
      ⟨(some 67), none, .mov (.tmp 1)⟩,
      ⟨(some 68), none, .mov (.tmp 9)⟩,
      ⟨(some 69), none, .callF 46 [(.tmp 65), (.tmp 66), (.tmp 67), (.tmp 68)]⟩,
      ⟨none, none, .store 3 (.tmp 4) (.tmp 69)⟩,
      ⟨(some 5), none, .mov (.const (.int .i64 0))⟩] [4, 5])
  (.ret)))))))),
  70, [(4, (some (some 3))), (5, none)], true⟩
theorem ok21 : FunOK Tryd.prog 21 c21 := ⟨⟨Tryd.f21, _, c21.code, Tryd.func21, rfl, by kernel_rfl, rfl, by kernel_rfl, by kernel_rfl⟩⟩
/- raddle/grade.Snap -/
def c22 : AFun := ⟨
  .seq (.ops [⟨(some 2), none, .box 25 (.tmp 0)⟩,
      ⟨(some 3), none, .box 3 (.tmp 1)⟩,
      ⟨(some 4), none, .alloc 25 [(3, (.slice none 0 0))]⟩,
      ⟨(some 5), none, .mov (.const (.int .i64 0))⟩] [2, 3, 4])
  (.seq (.seq (.ops [⟨(some 9), none, .load (some 3) (.tmp 2)⟩,
      ⟨(some 10), none, .callF 19 [(.tmp 9)]⟩,
      ⟨(some 6), none, .mov (.tmp 10)⟩] [2, 3, 4, 6])
  (.seq (.ops [⟨(some 11), none, .mov (.tmp 6)⟩,
      ⟨(some 12), none, .bin .neq (.tmp 11) (.const (.int .i64 0))⟩] [2, 3, 4, 6, 12])
  (.cond (.tmp 12)
    (.seq (.ops [⟨(some 13), none, .build [(.slice none 0 0), (.slice none 0 0), (.slice none 0 0)] []⟩,
        ⟨(some 14), none, .mov (.tmp 6)⟩,
        ⟨none, none, .store 3 (.tmp 4) (.tmp 13)⟩,
        ⟨(some 5), none, .mov (.tmp 14)⟩] [4, 5])
    (.ret))
    (.skip))))
  (.seq (.seq (.ops [⟨(some 15), none, .load none (.tmp 3)⟩,
      ⟨(some 16), none, .bin .lss (.tmp 15) (.const (.int .i64 1))⟩,
      ⟨(some 17), none, .mov (.tmp 16)⟩,
      ⟨(some 18), (some (17, false)), .load none (.tmp 3)⟩,
      ⟨(some 19), (some (17, false)), .bin .gtr (.tmp 18) (.const (.int .i64 10000))⟩,
      ⟨(some 20), none, .pick (.tmp 17) (.const (.bool true)) (.tmp 19)⟩] [2, 3, 4, 20])
  (.cond (.tmp 20)
    (.seq (.ops [⟨(some 21), none, .build [(.slice none 0 0), (.slice none 0 0), (.slice none 0 0)] []⟩,
        ⟨none, none, .store 3 (.tmp 4) (.tmp 21)⟩,
        ⟨(some 5), none, .mov (.const (.int .i64 2))⟩] [4, 5])
    (.ret))
    (.skip)))
  (.seq (.ops [⟨(some 7), none, .alloc 4 [(1, (.bool false))]⟩,
      ⟨none, none, .store 1 (.tmp 7) (.const (.bool true))⟩] [2, 3, 4, 7])
  (.seq (.ops [⟨(some 22), none, .load (some 3) (.tmp 2)⟩,
      ⟨(some 23), none, .mkFn 50 [] [(.tmp 3), (.tmp 7)]⟩,
      ⟨(some 24), none, .callF 49 [(.tmp 22), (.tmp 23)]⟩,
      ⟨(some 8), none, .alloc 25 [(3, (.slice none 0 0))]⟩,
      ⟨none, none, .store 3 (.tmp 8) (.tmp 24)⟩] [4, 7, 8])
  (.seq (.seq (.ops [⟨(some 25), none, .load none (.tmp 7)⟩,
      ⟨(some 26), none, .un .not (.tmp 25)⟩] [4, 8, 26])
  (.cond (.tmp 26)
    (.seq (.ops [⟨(some 27), none, .build [(.slice none 0 0), (.slice none 0 0), (.slice none 0 0)] []⟩,
        ⟨none, none, .store 3 (.tmp 4) (.tmp 27)⟩,
        ⟨(some 5), none, .mov (.const (.int .i64 16))⟩] [4, 5])
    (.ret))
    (.skip)))
  (.seq (.ops [⟨(some 28), none, .load (some 3) (.tmp 8)⟩,
      ⟨none, none, .store 3 (.tmp 4) (.tmp 28)⟩,
      ⟨(some 5), none, .mov (.const (.int .i64 0))⟩] [4, 5])
  (.ret))))))),
  29, [(4, (some (some 3))), (5, none)], true⟩
theorem ok22 : FunOK Tryd.prog 22 c22 := ⟨⟨Tryd.f22, _, c22.code, Tryd.func22, rfl, by kernel_rfl, rfl, by kernel_rfl, by kernel_rfl⟩⟩
/- raddle/grade.Find -/
def c23l0 : AC :=
  .seq (.ops [⟨(some 30), none, .bin .lss (.tmp 29) (.tmp 28)⟩] [2, 3, 27, 28, 29, 30])
        (.seq (.cond (.tmp 30)
          (.skip)
          (.exit 0))
        (.seq (.block 1
          (.seq (.ops [⟨(some 31), none, .mov (.tmp 29)⟩,
              ⟨(some 32), none, .idxS 1 (.tmp 27) (.tmp 29)⟩,
              ⟨(some 33), none, .load none (.tmp 32)⟩,
              ⟨(some 10), none, .mov (.tmp 31)⟩,
              ⟨(some 11), none, .mov (.tmp 33)⟩] [2, 3, 10, 11, 27, 28, 29])
          (.seq (.ops [⟨(some 34), none, .mov (.tmp 11)⟩,
              ⟨(some 35), none, .mov (.tmp 2)⟩,
              ⟨(some 36), none, .bin .geq (.tmp 34) (.tmp 35)⟩] [2, 3, 10, 27, 28, 29, 36])
          (.cond (.tmp 36)
            (.seq (.ops [⟨(some 37), none, .fldA 0 (.tmp 3)⟩,
                ⟨(some 38), none, .load none (.tmp 37)⟩,
                ⟨(some 39), none, .mov (.tmp 10)⟩,
                ⟨(some 40), none, .idxS 1 (.tmp 38) (.tmp 39)⟩,
                ⟨(some 41), none, .load none (.tmp 40)⟩,
                ⟨(some 6), none, .mov (.tmp 41)⟩,
                ⟨(some 7), none, .mov (.const (.int .i64 0))⟩] [6, 7])
            (.ret))
            (.skip)))))
        (.ops [⟨(some 42), none, .bin .add (.tmp 29) (.const (.int .i64 1))⟩,
            ⟨(some 29), none, .mov (.tmp 42)⟩] [2, 3, 27, 28, 29])))
def c23 : AFun := ⟨
  .seq (.ops [⟨(some 3), none, .box 25 (.tmp 0)⟩,
      ⟨(some 6), none, .mov (.const (.string ⟨#[]⟩))⟩,
      ⟨(some 7), none, .mov (.const (.int .i64 0))⟩] [1, 2, 3])
  (.seq (.seq (.ops [⟨(some 12), none, .load (some 3) (.tmp 3)⟩,
      ⟨(some 13), none, .callF 19 [(.tmp 12)]⟩,
      ⟨(some 8), none, .mov (.tmp 13)⟩] [1, 2, 3, 8])
  (.seq (.ops [⟨(some 14), none, .mov (.tmp 8)⟩,
      ⟨(some 15), none, .bin .neq (.tmp 14) (.const (.int .i64 0))⟩] [1, 2, 3, 8, 15])
  (.cond (.tmp 15)
    (.seq (.ops [⟨(some 16), none, .mov (.tmp 8)⟩,
        ⟨(some 6), none, .mov (.const (.string ⟨#[]⟩))⟩,
        ⟨(some 7), none, .mov (.tmp 16)⟩] [6, 7])
    (.ret))
    (.skip))))
  (.seq (.seq (.ops [⟨(some 17), none, .fldA 1 (.tmp 3)⟩,
      ⟨(some 18), none, .load none (.tmp 17)⟩,
      ⟨(some 19), none, .mov (.tmp 1)⟩,
      ⟨(some 20), none, .callF 48 [(.tmp 18), (.tmp 19)]⟩,
      ⟨(some 9), none, .mov (.tmp 20)⟩] [2, 3, 9])
  (.seq (.ops [⟨(some 21), none, .mov (.tmp 9)⟩,
      ⟨(some 22), none, .bin .geq (.tmp 21) (.const (.int .i64 0))⟩] [2, 3, 9, 22])
  (.cond (.tmp 22)
    (.seq (.ops [⟨(some 23), none, .fldA 2 (.tmp 3)⟩,
        ⟨(some 24), none, .load none (.tmp 23)⟩,
        ⟨(some 25), none, .mov (.tmp 9)⟩,
        ⟨(some 26), none, .idxS 1 (.tmp 24) (.tmp 25)⟩,
        ⟨(some 27), none, .load none (.tmp 26)⟩,
        ⟨(some 28), none, .len false (.tmp 27)⟩,
        ⟨(some 29), none, .mov (.const (.int .i64 0))⟩] [2, 3, 27, 28, 29])
    (.block 0
      (.loop [2, 3, 27, 28, 29]
        c23l0)))
    (.skip))))
  (.seq (.ops [⟨(some 6), none, .mov (.const (.string ⟨#[]⟩))⟩,
      ⟨(some 7), none, .mov (.const (.int .i64 6))⟩] [6, 7])
  (.ret)))),
  43, [(6, none), (7, none)], true⟩
theorem ok23 : FunOK Tryd.prog 23 c23 := ⟨⟨Tryd.f23, _, c23.code, Tryd.func23, rfl, by kernel_rfl, rfl, by kernel_rfl, by kernel_rfl⟩⟩
/- raddle/raddleref40.Index -/
def c24l0 : AC :=
  .seq (.seq (.ops [⟨(some 6), none, .mov (.tmp 5)⟩,
          ⟨(some 7), none, .mov (.tmp 0)⟩,
          ⟨(some 8), none, .len false (.tmp 7)⟩,
          ⟨(some 9), none, .bin .lss (.tmp 6) (.tmp 8)⟩] [0, 1, 5, 9])
      (.cond (.tmp 9)
        (.skip)
        (.exit 0)))
      (.seq (.block 1
        (.seq (.ops [⟨(some 12), none, .mov (.tmp 0)⟩,
            ⟨(some 13), none, .mov (.tmp 5)⟩,
            ⟨(some 14), none, .idxS 1 (.tmp 12) (.tmp 13)⟩,
            ⟨(some 15), none, .load none (.tmp 14)⟩,
            ⟨(some 16), none, .mov (.tmp 1)⟩,
            ⟨(some 17), none, .bin .eql (.tmp 15) (.tmp 16)⟩] [0, 1, 5, 17])
        (.cond (.tmp 17)
          (.seq (.ops [⟨(some 18), none, .mov (.tmp 5)⟩,
              ⟨(some 4), none, .mov (.tmp 18)⟩] [4])
          (.ret))
          (.skip))))
      (.ops [⟨(some 10), none, .mov (.tmp 5)⟩,
          ⟨(some 11), none, .bin .add (.tmp 10) (.const (.int .i64 1))⟩,
          ⟨(some 5), none, .mov (.tmp 11)⟩] [0, 1, 5]))
def c24 : AFun := ⟨
  .seq (.ops [⟨(some 4), none, .mov (.const (.int .i64 0))⟩] [0, 1])
  (.seq (.seq (.ops [⟨(some 5), none, .mov (.const (.int .i64 0))⟩] [0, 1, 5])
  (.block 0
    (.loop [0, 1, 5]
      c24l0)))
  (.seq (.ops [⟨(some 4), none, .mov (.const (.int .i64 (-1)))⟩] [4])
  (.ret))),
  19, [(4, none)], true⟩
theorem ok24 : FunOK Tryd.prog 24 c24 := ⟨⟨Tryd.f24, _, c24.code, Tryd.func24, rfl, by kernel_rfl, rfl, by kernel_rfl, by kernel_rfl⟩⟩
/- raddle/grade.At -/
def c25 : AFun := ⟨
  .seq (.ops [⟨(some 3), none, .box 25 (.tmp 0)⟩,
      ⟨(some 6), none, .mov (.const (.int .i64 0))⟩,
      ⟨(some 7), none, .mov (.const (.int .i64 0))⟩] [1, 2, 3])
  (.seq (.seq (.ops [⟨(some 11), none, .load (some 3) (.tmp 3)⟩,
      ⟨(some 12), none, .callF 19 [(.tmp 11)]⟩,
      ⟨(some 8), none, .mov (.tmp 12)⟩] [1, 2, 3, 8])
  (.seq (.ops [⟨(some 13), none, .mov (.tmp 8)⟩,
      ⟨(some 14), none, .bin .neq (.tmp 13) (.const (.int .i64 0))⟩] [1, 2, 3, 8, 14])
  (.cond (.tmp 14)
    (.seq (.ops [⟨(some 15), none, .mov (.tmp 8)⟩,
        ⟨(some 6), none, .mov (.const (.int .i64 0))⟩,
        ⟨(some 7), none, .mov (.tmp 15)⟩] [6, 7])
    (.ret))
    (.skip))))
  (.seq (.draw [⟨(some 16), none, .fldA 1 (.tmp 3)⟩,
      ⟨(some 17), none, .load none (.tmp 16)⟩,
      ⟨(some 18), none, .mov (.tmp 1)⟩,
      ⟨(some 19), none, .callF 48 [(.tmp 17), (.tmp 18)]⟩,
      ⟨(some 20), none, .fldA 0 (.tmp 3)⟩,
      ⟨(some 21), none, .load none (.tmp 20)⟩,
      ⟨(some 22), none, .mov (.tmp 2)⟩] [⟨(some 23), none, .callF 48 [(.tmp 21), (.tmp 22)]⟩,
      ⟨(some 9), none, .mov (.tmp 19)⟩,
      ⟨(some 10), none, .mov (.tmp 23)⟩] [[], [], [], [], [false, false, false, false], [true, false, false, false, false], [false, false, false, false, false, false]] [3, 9, 10])
  (.seq (.seq (.ops [⟨(some 24), none, .mov (.tmp 9)⟩,
      ⟨(some 25), none, .bin .lss (.tmp 24) (.const (.int .i64 0))⟩,
      ⟨(some 26), none, .mov (.tmp 25)⟩,
      ⟨(some 27), (some (26, false)), .mov (.tmp 10)⟩,
      ⟨(some 28), (some (26, false)), .bin .lss (.tmp 27) (.const (.int .i64 0))⟩,
      ⟨(some 29), none, .pick (.tmp 26) (.const (.bool true)) (.tmp 28)⟩] [3, 9, 10, 29])
  (.cond (.tmp 29)
    (.seq (.ops [⟨(some 6), none, .mov (.const (.int .i64 0))⟩,
        ⟨(some 7), none, .mov (.const (.int .i64 6))⟩] [6, 7])
    (.ret))
    (.skip)))
  (.seq (.ops [⟨(some 30), none, .fldA 2 (.tmp 3)⟩,
      ⟨(some 31), none, .load none (.tmp 30)⟩,
      ⟨(some 32), none, .mov (.tmp 9)⟩,
      ⟨(some 33), none, .idxS 1 (.tmp 31) (.tmp 32)⟩,
      ⟨(some 34), none, .load none (.tmp 33)⟩,
      ⟨(some 35), none, .mov (.tmp 10)⟩,
      ⟨(some 36), none, .idxS 1 (.tmp 34) (.tmp 35)⟩,
      ⟨(some 37), none, .load none (.tmp 36)⟩,
      ⟨(some 6), none, .mov (.tmp 37)⟩,
      ⟨(some 7), none, .mov (.const (.int .i64 0))⟩] [6, 7])
  (.ret))))),
  38, [(6, none), (7, none)], true⟩
theorem ok25 : FunOK Tryd.prog 25 c25 := ⟨⟨Tryd.f25, _, c25.code, Tryd.func25, rfl, by kernel_rfl, rfl, by kernel_rfl, by kernel_rfl⟩⟩
/- raddle/raddleref36.Same -/
def c28l0 : AC :=
  .seq (.seq (.ops [⟨(some 11), none, .mov (.tmp 5)⟩,
          ⟨(some 12), none, .mov (.tmp 0)⟩,
          ⟨(some 13), none, .len false (.tmp 12)⟩,
          ⟨(some 14), none, .bin .lss (.tmp 11) (.tmp 13)⟩] [0, 1, 5, 14])
      (.cond (.tmp 14)
        (.skip)
        (.exit 0)))
      (.seq (.block 1
        (.seq (.draw [⟨(some 17), none, .mov (.tmp 0)⟩,
            ⟨(some 18), none, .mov (.tmp 5)⟩,
            ⟨(some 19), none, .idxS 1 (.tmp 17) (.tmp 18)⟩,
            ⟨(some 20), none, .load none (.tmp 19)⟩,
            ⟨(some 21), none, .mov (.tmp 1)⟩,
            ⟨(some 22), none, .mov (.tmp 5)⟩,
            ⟨(some 23), none, .idxS 1 (.tmp 21) (.tmp 22)⟩,
            ⟨(some 24), none, .load none (.tmp 23)⟩] [⟨(some 25), none, .bin .neq (.tmp 20) (.tmp 24)⟩] [[], [], [], [], [], [], [], []] [0, 1, 5, 25])
        (.cond (.tmp 25)
          (.seq (.ops [⟨(some 4), none, .mov (.const (.bool false))⟩] [4])
          (.ret))
          (.skip))))
      (.ops [⟨(some 15), none, .mov (.tmp 5)⟩,
          ⟨(some 16), none, .bin .add (.tmp 15) (.const (.int .i64 1))⟩,
          ⟨(some 5), none, .mov (.tmp 16)⟩] [0, 1, 5]))
def c28 : AFun := ⟨
  .seq (.ops [⟨(some 4), none, .mov (.const (.bool false))⟩] [0, 1])
  (.seq (.seq (.ops [⟨(some 6), none, .mov (.tmp 0)⟩,
      ⟨(some 7), none, .len false (.tmp 6)⟩,
      ⟨(some 8), none, .mov (.tmp 1)⟩,
      ⟨(some 9), none, .len false (.tmp 8)⟩,
      ⟨(some 10), none, .bin .neq (.tmp 7) (.tmp 9)⟩] [0, 1, 10])
  (.cond (.tmp 10)
    (.seq (.ops [⟨(some 4), none, .mov (.const (.bool false))⟩] [4])
    (.ret))
    (.skip)))
  (.seq (.seq (.ops [⟨(some 5), none, .mov (.const (.int .i64 0))⟩] [0, 1, 5])
  (.block 0
    (.loop [0, 1, 5]
      c28l0)))
  (.seq (.ops [⟨(some 4), none, .mov (.const (.bool true))⟩] [4])
  (.ret)))),
  26, [(4, none)], true⟩
theorem ok28 : FunOK Tryd.prog 28 c28 := ⟨⟨Tryd.f28, _, c28.code, Tryd.func28, rfl, by kernel_rfl, rfl, by kernel_rfl, by kernel_rfl⟩⟩
/- (*strings.Builder).WriteString -/
def c29 : AFun := ⟨
  .seq (.ops [⟨(some 4), none, .mov (.const (.int .i64 0))⟩,
      ⟨(some 5), none, .mov (.const .nilIface)⟩] [0, 1])
  (.seq (.ops [⟨(some 6), none, .mov (.tmp 0)⟩,
      ⟨(some 7), none, .callF 51 [(.tmp 6)]⟩] [0, 1])
  (.seq (.ops [⟨(some 8), none, .mov (.tmp 0)⟩,
      ⟨(some 9), none, .mov (.tmp 0)⟩,
      ⟨(some 10), none, .nilChk (.tmp 9)⟩,
      ⟨(some 11), none, .fldA 1 (.tmp 10)⟩,
      ⟨(some 12), none, .load none (.tmp 11)⟩,
      ⟨(some 13), none, .mov (.tmp 1)⟩,
      ⟨(some 14), none, .app 5 1 1 (.tmp 12) (.tmp 13)⟩,
      ⟨(some 15), none, .nilChk (.tmp 8)⟩,
      ⟨(some 16), none, .fldA 1 (.tmp 15)⟩,
      ⟨none, none, .store 1 (.tmp 16) (.tmp 14)⟩] [1])
  (.seq (.ops [⟨(some 17), none, .mov (.tmp 1)⟩,
      ⟨(some 18), none, .len true (.tmp 17)⟩,
      ⟨(some 4), none, .mov (.tmp 18)⟩,
      ⟨(some 5), none, .mov (.const .nilIface)⟩] [4, 5])
  (.ret)))),
  19, [(4, none), (5, none)], false⟩
theorem ok29 : FunOK Tryd.prog 29 c29 := ⟨⟨Tryd.f29, _, c29.code, Tryd.func29, rfl, by kernel_rfl, rfl, by kernel_rfl, by kernel_rfl⟩⟩
/- strings.Join (2 operations that the interpreter lacks) -/
def c30l0 : AC :=
  .seq (.ops [⟨(some 66), none, .bin .lss (.tmp 65) (.tmp 64)⟩] [1, 8, 63, 64, 65, 66])
      (.seq (.cond (.tmp 66)
        (.skip)
        (.exit 3))
      (.seq (.block 4
        (.seq (.ops [⟨(some 67), none, .idxS 1 (.tmp 63) (.tmp 65)⟩,
            ⟨(some 68), none, .load none (.tmp 67)⟩,
            ⟨(some 10), none, .mov (.tmp 68)⟩] [1, 8, 10, 63, 64, 65])
        (.seq (.ops [⟨(some 69), none, .mov (.tmp 1)⟩,
            ⟨(some 70), none, .callF 29 [(.tmp 8), (.tmp 69)]⟩] [1, 8, 10, 63, 64, 65])
        (.ops [⟨(some 71), none, .mov (.tmp 10)⟩,
            ⟨(some 72), none, .callF 29 [(.tmp 8), (.tmp 71)]⟩] [1, 8, 63, 64, 65]))))
      (.ops [⟨(some 73), none, .bin .add (.tmp 65) (.const (.int .i64 1))⟩,
          ⟨(some 65), none, .mov (.tmp 73)⟩] [1, 8, 63, 64, 65])))
def c30l1 : AC :=
  .seq (.ops [⟨(some 42), none, .bin .lss (.tmp 41) (.tmp 40)⟩] [0, 1, 5, 39, 40, 41, 42])
      (.seq (.cond (.tmp 42)
        (.skip)
        (.exit 1))
      (.seq (.block 2
        (.seq (.ops [⟨(some 43), none, .idxS 1 (.tmp 39) (.tmp 41)⟩,
            ⟨(some 44), none, .load none (.tmp 43)⟩,
            ⟨(some 7), none, .mov (.tmp 44)⟩] [0, 1, 5, 7, 39, 40, 41])
        (.seq (.seq (.ops [⟨(some 45), none, .mov (.tmp 7)⟩,
            ⟨(some 46), none, .len true (.tmp 45)⟩,
            ⟨(some 47), none, .mov (.tmp 5)⟩,
            ⟨(some 48), none, .bin .sub (.const (.int .i64 9223372036854775807)) (.tmp 47)⟩,
            ⟨(some 49), none, .bin .gtr (.tmp 46) (.tmp 48)⟩] [0, 1, 5, 7, 39, 40, 41, 49])
        (.cond (.tmp 49)
          (.ops [⟨(some 50), none, .mkIf 9 (.const (.string ⟨#[115, 116, 114, 105, 110, 103, 115, 58, 32, 74, 111, 105, 110, 32, 111, 117, 116, 112, 117, 116, 32, 108, 101, 110, 103, 116, 104, 32, 111, 118, 101, 114, 102, 108, 111, 119]⟩))⟩,
              ⟨none, none, .bad⟩] [0, 1, 5, 7, 39, 40, 41])
          (.skip)))
        (.ops [⟨(some 51), none, .mov (.tmp 5)⟩,
            ⟨(some 52), none, .mov (.tmp 7)⟩,
            ⟨(some 53), none, .len true (.tmp 52)⟩,
            ⟨(some 54), none, .bin .add (.tmp 51) (.tmp 53)⟩,
            ⟨(some 5), none, .mov (.tmp 54)⟩] [0, 1, 5, 39, 40, 41]))))
      (.ops [⟨(some 55), none, .bin .add (.tmp 41) (.const (.int .i64 1))⟩,
          ⟨(some 41), none, .mov (.tmp 55)⟩] [0, 1, 5, 39, 40, 41])))
def c30 : AFun := ⟨
  .seq (.ops [⟨(some 4), none, .mov (.const (.string ⟨#[]⟩))⟩] [0, 1])
  (.seq (.seq (.ops [⟨(some 11), none, .mov (.tmp 0)⟩,
      ⟨(some 12), none, .len false (.tmp 11)⟩] [0, 1, 12])
  (.block 0
    (.seq (.ops [⟨(some 14), none, .bin .eql (.tmp 12) (.const (.int .i64 0))⟩,
        ⟨(some 13), none, .mov (.tmp 14)⟩] [0, 1, 12, 13])
    (.cond (.tmp 13)
      (.seq (.ops [⟨(some 4), none, .mov (.const (.string ⟨#[]⟩))⟩] [4])
      (.ret))
      (.seq (.ops [⟨(some 16), none, .bin .eql (.tmp 12) (.const (.int .i64 1))⟩,
          ⟨(some 15), none, .mov (.tmp 16)⟩] [0, 1, 15])
      (.cond (.tmp 15)
        (.seq (.ops [⟨(some 17), none, .mov (.tmp 0)⟩,
            ⟨(some 18), none, .idxS 1 (.tmp 17) (.const (.int .i64 0))⟩,
            ⟨(some 19), none, .load none (.tmp 18)⟩,
            ⟨(some 4), none, .mov (.tmp 19)⟩] [4])
        (.ret))
        (.skip)))))))
  (.seq (.ops [⟨(some 5), none, .mov (.const (.int .i64 0))⟩] [0, 1, 5])
  (.seq (.seq (.ops [⟨(some 20), none, .mov (.tmp 1)⟩,
      ⟨(some 21), none, .len true (.tmp 20)⟩,
      ⟨(some 22), none, .bin .gtr (.tmp 21) (.const (.int .i64 0))⟩] [0, 1, 5, 22])
  (.cond (.tmp 22)
    (.seq (.seq (.ops [⟨(some 23), none, .mov (.tmp 1)⟩,
        ⟨(some 24), none, .len true (.tmp 23)⟩,
        ⟨(some 25), none, .mov (.tmp 0)⟩,
        ⟨(some 26), none, .len false (.tmp 25)⟩,
        ⟨(some 27), none, .bin .sub (.tmp 26) (.const (.int .i64 1))⟩,
        ⟨(some 28), none, .bin .quo (.const (.int .i64 9223372036854775807)) (.tmp 27)⟩,
        ⟨(some 29), none, .bin .geq (.tmp 24) (.tmp 28)⟩] [0, 1, 5, 29])
    (.cond (.tmp 29)
      (.ops [⟨(some 30), none, .mkIf 9 (.const (.string ⟨#[115, 116, 114, 105, 110, 103, 115, 58, 32, 74, 111, 105, 110, 32, 111, 117, 116, 112, 117, 116, 32, 108, 101, 110, 103, 116, 104, 32, 111, 118, 101, 114, 102, 108, 111, 119]⟩))⟩,
          ⟨none, none, .bad⟩] [0, 1, 5])
      (.skip)))
    (.ops [⟨(some 31), none, .mov (.tmp 5)⟩,
        ⟨(some 32), none, .mov (.tmp 1)⟩,
        ⟨(some 33), none, .len true (.tmp 32)⟩,
        ⟨(some 34), none, .mov (.tmp 0)⟩,
        ⟨(some 35), none, .len false (.tmp 34)⟩,
        ⟨(some 36), none, .bin .sub (.tmp 35) (.const (.int .i64 1))⟩,
        ⟨(some 37), none, .bin .mul (.tmp 33) (.tmp 36)⟩,
        ⟨(some 38), none, .bin .add (.tmp 31) (.tmp 37)⟩,
        ⟨(some 5), none, .mov (.tmp 38)⟩] [0, 1, 5]))
    (.skip)))
  (.seq (.seq (.ops [⟨(some 39), none, .mov (.tmp 0)⟩,
      ⟨(some 40), none, .len false (.tmp 39)⟩,
      ⟨(some 41), none, .mov (.const (.int .i64 0))⟩] [0, 1, 5, 39, 40, 41])
  (.block 1
    (.loop [0, 1, 5, 39, 40, 41]
      c30l1)))
  (.seq (.ops [⟨(some 8), none, .alloc 61 [(1, (.pointer none)), (1, (.slice none 0 0))]⟩] [0, 1, 5, 8])
  (.seq (.ops [⟨(some 56), none, .mov (.tmp 5)⟩,
      ⟨(some 57), none, .callF 52 [(.tmp 8), (.tmp 56)]⟩] [0, 1, 8])
  (.seq (.ops [⟨(some 58), none, .mov (.tmp 0)⟩,
      ⟨(some 59), none, .idxS 1 (.tmp 58) (.const (.int .i64 0))⟩,
      ⟨(some 60), none, .load none (.tmp 59)⟩,
      ⟨(some 61), none, .callF 29 [(.tmp 8), (.tmp 60)]⟩] [0, 1, 8])
  (.seq (.seq (.ops [⟨(some 62), none, .mov (.tmp 0)⟩,
      ⟨(some 63), none, .slc 1 (.tmp 62) (some (.const (.int .i64 1))) none none⟩,
      ⟨(some 64), none, .len false (.tmp 63)⟩,
      ⟨(some 65), none, .mov (.const (.int .i64 0))⟩] [1, 8, 63, 64, 65])
  (.block 3
    (.loop [1, 8, 63, 64, 65]
      c30l0)))
  (.seq (.ops [⟨(some 74), none, .callF 34 [(.tmp 8)]⟩,
      ⟨(some 4), none, .mov (.tmp 74)⟩] [4])
  (.ret)))))))))),
  75, [(4, none)], true⟩
theorem ok30 : FunOK Tryd.prog 30 c30 := ⟨⟨Tryd.f30, _, c30.code, Tryd.func30, rfl, by kernel_rfl, rfl, by kernel_rfl, by kernel_rfl⟩⟩
/- (*strings.Builder).WriteByte -/
def c31 : AFun := ⟨
  .seq (.ops [⟨(some 4), none, .mov (.const .nilIface)⟩] [0, 1])
  (.seq (.ops [⟨(some 5), none, .mov (.tmp 0)⟩,
      ⟨(some 6), none, .callF 51 [(.tmp 5)]⟩] [0, 1])
  (.seq (.ops [⟨(some 7), none, .mov (.tmp 0)⟩,
      ⟨(some 8), none, .mov (.tmp 0)⟩,
      ⟨(some 9), none, .nilChk (.tmp 8)⟩,
      ⟨(some 10), none, .fldA 1 (.tmp 9)⟩,
      ⟨(some 11), none, .load none (.tmp 10)⟩,
      ⟨(some 12), none, .mov (.tmp 1)⟩,
      ⟨(some 13), none, .mkRow 5 1 1 [(.int .u8 0)] [(0, 1, (.tmp 12))]⟩,
      ⟨(some 14), none, .app 5 1 1 (.tmp 11) (.tmp 13)⟩,
      ⟨(some 15), none, .nilChk (.tmp 7)⟩,
      ⟨(some 16), none, .fldA 1 (.tmp 15)⟩,
      ⟨none, none, .store 1 (.tmp 16) (.tmp 14)⟩] [])
  (.seq (.ops [⟨(some 4), none, .mov (.const .nilIface)⟩] [4])
  (.ret)))),
  17, [(4, none)], false⟩
theorem ok31 : FunOK Tryd.prog 31 c31 := ⟨⟨Tryd.f31, _, c31.code, Tryd.func31, rfl, by kernel_rfl, rfl, by kernel_rfl, by kernel_rfl⟩⟩
/- strconv.Itoa -/
def c32 : AFun := ⟨
  .seq (.ops [⟨(some 2), none, .mov (.const (.string ⟨#[]⟩))⟩] [0])
  (.seq (.ops [⟨(some 3), none, .mov (.tmp 0)⟩,
      ⟨(some 4), none, .callF 53 [(.tmp 3)]⟩,
      ⟨(some 2), none, .mov (.tmp 4)⟩] [2])
  (.ret)),
  5, [(2, none)], true⟩
theorem ok32 : FunOK Tryd.prog 32 c32 := ⟨⟨Tryd.f32, _, c32.code, Tryd.func32, rfl, by kernel_rfl, rfl, by kernel_rfl, by kernel_rfl⟩⟩
/- (*strings.Builder).Len -/
def c33 : AFun := ⟨
  .seq (.ops [⟨(some 2), none, .mov (.const (.int .i64 0))⟩] [0])
  (.seq (.ops [⟨(some 3), none, .mov (.tmp 0)⟩,
      ⟨(some 4), none, .nilChk (.tmp 3)⟩,
      ⟨(some 5), none, .fldA 1 (.tmp 4)⟩,
      ⟨(some 6), none, .load none (.tmp 5)⟩,
      ⟨(some 7), none, .len false (.tmp 6)⟩,
      ⟨(some 2), none, .mov (.tmp 7)⟩] [2])
  (.ret)),
  8, [(2, none)], true⟩
theorem ok33 : FunOK Tryd.prog 33 c33 := ⟨⟨Tryd.f33, _, c33.code, Tryd.func33, rfl, by kernel_rfl, rfl, by kernel_rfl, by kernel_rfl⟩⟩
/- (*strings.Builder).String -/
def c34 : AFun := ⟨
  .seq (.ops [⟨(some 2), none, .mov (.const (.string ⟨#[]⟩))⟩] [0])
  (.seq (.draw [⟨(some 3), none, .mov (.tmp 0)⟩,
      ⟨(some 4), none, .nilChk (.tmp 3)⟩,
      ⟨(some 5), none, .fldA 1 (.tmp 4)⟩,
      ⟨(some 6), none, .load none (.tmp 5)⟩,
      ⟨(some 7), none, .sdata (.tmp 6)⟩,
      ⟨(some 8), none, .mov (.tmp 0)⟩,
      ⟨(some 9), none, .nilChk (.tmp 8)⟩,
      ⟨(some 10), none, .fldA 1 (.tmp 9)⟩,
      ⟨(some 11), none, .load none (.tmp 10)⟩,
      ⟨(some 12), none, .len false (.tmp 11)⟩] [⟨(some 13), none, .ustr 5 (.tmp 7) (.tmp 12)⟩,
      ⟨(some 2), none, .mov (.tmp 13)⟩] [[], [], [], [], [], [], [], [], [], []] [2])
  (.ret)),
  14, [(2, none)], false⟩
theorem ok34 : FunOK Tryd.prog 34 c34 := ⟨⟨Tryd.f34, _, c34.code, Tryd.func34, rfl, by kernel_rfl, rfl, by kernel_rfl, by kernel_rfl⟩⟩
/- strings.Split -/
def c36 : AFun := ⟨
  .seq (.ops [⟨(some 4), none, .mov (.const (.slice none 0 0))⟩] [0, 1])
  (.seq (.ops [⟨(some 5), none, .mov (.tmp 0)⟩,
      ⟨(some 6), none, .mov (.tmp 1)⟩,
      ⟨(some 7), none, .callF 54 [(.tmp 5), (.tmp 6), (.const (.int .i64 0)), (.const (.int .i64 (-1)))]⟩,
      ⟨(some 4), none, .mov (.tmp 7)⟩] [4])
  (.ret)),
  8, [(4, none)], true⟩
theorem ok36 : FunOK Tryd.prog 36 c36 := ⟨⟨Tryd.f36, _, c36.code, Tryd.func36, rfl, by kernel_rfl, rfl, by kernel_rfl, by kernel_rfl⟩⟩
/- strings.TrimSuffix -/
def c37 : AFun := ⟨
  .seq (.ops [⟨(some 4), none, .mov (.const (.string ⟨#[]⟩))⟩] [0, 1])
  (.seq (.ops [⟨(some 5), none, .mov (.tmp 0)⟩,
      ⟨(some 6), none, .mov (.tmp 1)⟩,
      ⟨(some 7), none, .callF 55 [(.tmp 5), (.tmp 6)]⟩,
      ⟨(some 4), none, .mov (.tmp 7)⟩] [4])
  (.ret)),
  8, [(4, none)], true⟩
theorem ok37 : FunOK Tryd.prog 37 c37 := ⟨⟨Tryd.f37, _, c37.code, Tryd.func37, rfl, by kernel_rfl, rfl, by kernel_rfl, by kernel_rfl⟩⟩
/- strconv.Atoi -/
def c38 : AFun := ⟨
  .seq (.ops [⟨(some 2), none, .mov (.const (.int .i64 0))⟩,
      ⟨(some 3), none, .mov (.const .nilIface)⟩] [0])
  (.seq (.ops [⟨(some 7), none, .mov (.tmp 0)⟩,
      ⟨(some 8), none, .callF 56 [(.tmp 7)]⟩,
      ⟨(some 6), none, .mov (.tmp 8)⟩,
      ⟨(some 9), none, .ext (.tmp 6) 0⟩,
      ⟨(some 10), none, .ext (.tmp 6) 1⟩,
      ⟨(some 4), none, .mov (.tmp 9)⟩,
      ⟨(some 5), none, .mov (.tmp 10)⟩] [0, 4, 5])
  (.seq (.seq (.ops [⟨(some 11), none, .mov (.tmp 5)⟩,
      ⟨(some 12), none, .eqIf true true [2, 3, 5, 6, 12, 21, 27, 97, 105, 116, 124, 146, 147, 149, 150] (.tmp 11) (.const .nilIface)⟩] [0, 4, 5, 12])
  (.cond (.tmp 12)
    (.seq (.ops [⟨(some 13), none, .mov (.tmp 4)⟩,
        ⟨(some 14), none, .mov (.tmp 0)⟩,
        ⟨(some 15), none, .mov (.tmp 5)⟩,
        ⟨(some 16), none, .callF 57 [(.const (.string ⟨#[65, 116, 111, 105]⟩)), (.tmp 14), (.const (.int .i64 0)), (.const (.int .i64 0)), (.tmp 15)]⟩,
        ⟨(some 2), none, .mov (.tmp 13)⟩,
        ⟨(some 3), none, .mov (.tmp 16)⟩] [2, 3])
    (.ret))
    (.skip)))
  (.seq (.ops [⟨(some 17), none, .mov (.tmp 4)⟩,
      ⟨(some 2), none, .mov (.tmp 17)⟩,
      ⟨(some 3), none, .mov (.const .nilIface)⟩] [2, 3])
  (.ret)))),
  18, [(2, none), (3, none)], true⟩
theorem ok38 : FunOK Tryd.prog 38 c38 := ⟨⟨Tryd.f38, _, c38.code, Tryd.func38, rfl, by kernel_rfl, rfl, by kernel_rfl, by kernel_rfl⟩⟩
/- raddle/raddlelaw40.given -/
def c41 : AFun := ⟨
  .seq (.ops [⟨(some 0), none, .alloc 25 [(3, (.slice none 0 0))]⟩] [0])
  (.seq (.ops [⟨(some 1), none, .mkRow 9 1 3 [(.string ⟨#[]⟩)] [(0, 1, (.const (.string ⟨#[115]⟩))), (1, 1, (.const (.string ⟨#[109]⟩))), (2, 1, (.const (.string ⟨#[108]⟩)))]⟩,
      ⟨(some 2), none, .mkRow 9 1 2 [(.string ⟨#[]⟩)] [(0, 1, (.const (.string ⟨#[99, 104, 101, 115, 116]⟩))), (1, 1, (.const (.string ⟨#[115, 108, 101, 101, 118, 101]⟩)))]⟩,
      ⟨(some 3), none, .mkRow 3 1 3 [(.int .i64 0)] [(0, 1, (.const (.int .i64 900))), (1, 1, (.const (.int .i64 1000))), (2, 1, (.const (.int .i64 1150)))]⟩,
      ⟨(some 4), none, .mkRow 3 1 3 [(.int .i64 0)] [(0, 1, (.const (.int .i64 580))), (1, 1, (.const (.int .i64 600))), (2, 1, (.const (.int .i64 620)))]⟩,
      ⟨(some 5), none, .mkRow 40 1 2 [(.slice none 0 0)] [(0, 1, (.tmp 3)), (1, 1, (.tmp 4))]⟩,
      ⟨(some 6), none, .build [(.slice none 0 0), (.slice none 0 0), (.slice none 0 0)] [(0, 1, (.tmp 1)), (1, 1, (.tmp 2)), (2, 1, (.tmp 5))]⟩,
      ⟨none, none, .store 3 (.tmp 0) (.tmp 6)⟩] [0])
  (.ret)),
  7, [(0, (some (some 3)))], true⟩
theorem ok41 : FunOK Tryd.prog 41 c41 := ⟨⟨Tryd.f41, _, c41.code, Tryd.func41, rfl, by kernel_rfl, rfl, by kernel_rfl, by kernel_rfl⟩⟩
/- raddle/raddleref40.words -/
def c42l0 : AC :=
  .seq (.seq (.ops [⟨(some 4), none, .mov (.tmp 3)⟩,
          ⟨(some 5), none, .mov (.tmp 0)⟩,
          ⟨(some 6), none, .len false (.tmp 5)⟩,
          ⟨(some 7), none, .bin .lss (.tmp 4) (.tmp 6)⟩] [0, 3, 7])
      (.cond (.tmp 7)
        (.skip)
        (.exit 0)))
      (.seq (.block 1
        (.seq (.ops [⟨(some 10), none, .mov (.tmp 0)⟩,
            ⟨(some 11), none, .mov (.tmp 3)⟩,
            ⟨(some 12), none, .idxS 1 (.tmp 10) (.tmp 11)⟩,
            ⟨(some 13), none, .load none (.tmp 12)⟩,
            ⟨(some 14), none, .callF 58 [(.tmp 13)]⟩,
            ⟨(some 15), none, .un .not (.tmp 14)⟩] [0, 3, 15])
        (.cond (.tmp 15)
          (.seq (.ops [⟨(some 2), none, .mov (.const (.bool false))⟩] [2])
          (.ret))
          (.skip))))
      (.ops [⟨(some 8), none, .mov (.tmp 3)⟩,
          ⟨(some 9), none, .bin .add (.tmp 8) (.const (.int .i64 1))⟩,
          ⟨(some 3), none, .mov (.tmp 9)⟩] [0, 3]))
def c42 : AFun := ⟨
  .seq (.ops [⟨(some 2), none, .mov (.const (.bool false))⟩] [0])
  (.seq (.seq (.ops [⟨(some 3), none, .mov (.const (.int .i64 0))⟩] [0, 3])
  (.block 0
    (.loop [0, 3]
      c42l0)))
  (.seq (.ops [⟨(some 16), none, .mov (.tmp 0)⟩,
      ⟨(some 17), none, .len false (.tmp 16)⟩,
      ⟨(some 18), none, .bin .gtr (.tmp 17) (.const (.int .i64 0))⟩,
      ⟨(some 2), none, .mov (.tmp 18)⟩] [2])
  (.ret))),
  19, [(2, none)], true⟩
theorem ok42 : FunOK Tryd.prog 42 c42 := ⟨⟨Tryd.f42, _, c42.code, Tryd.func42, rfl, by kernel_rfl, rfl, by kernel_rfl, by kernel_rfl⟩⟩
/- raddle/raddleref40.row -/
def c43l0 : AC :=
  .seq (.seq (.ops [⟨(some 6), none, .mov (.tmp 5)⟩,
          ⟨(some 7), none, .mov (.tmp 0)⟩,
          ⟨(some 8), none, .len false (.tmp 7)⟩,
          ⟨(some 9), none, .bin .lss (.tmp 6) (.tmp 8)⟩] [0, 1, 5, 9])
      (.cond (.tmp 9)
        (.skip)
        (.exit 0)))
      (.seq (.block 1
        (.seq (.draw [⟨(some 12), none, .mov (.tmp 0)⟩,
            ⟨(some 13), none, .mov (.tmp 5)⟩,
            ⟨(some 14), none, .idxS 1 (.tmp 12) (.tmp 13)⟩,
            ⟨(some 15), none, .load none (.tmp 14)⟩,
            ⟨(some 16), none, .bin .lss (.tmp 15) (.const (.int .i64 0))⟩,
            ⟨(some 17), none, .mov (.tmp 16)⟩,
            ⟨(some 18), (some (17, false)), .mov (.tmp 0)⟩,
            ⟨(some 19), (some (17, false)), .mov (.tmp 5)⟩,
            ⟨(some 20), (some (17, false)), .idxS 1 (.tmp 18) (.tmp 19)⟩,
            ⟨(some 21), (some (17, false)), .load none (.tmp 20)⟩,
            ⟨(some 22), (some (17, false)), .bin .gtr (.tmp 21) (.const (.int .i64 1000000))⟩,
            ⟨(some 23), none, .pick (.tmp 17) (.const (.bool true)) (.tmp 22)⟩,
            ⟨(some 24), none, .mov (.tmp 23)⟩,
            ⟨(some 25), (some (24, false)), .mov (.tmp 5)⟩,
            ⟨(some 26), (some (24, false)), .bin .gtr (.tmp 25) (.const (.int .i64 0))⟩,
            ⟨(some 27), (some (24, false)), .mov (.tmp 26)⟩,
            ⟨(some 28), (some (27, true)), .mov (.tmp 0)⟩,
            ⟨(some 29), (some (27, true)), .mov (.tmp 5)⟩,
            ⟨(some 30), (some (27, true)), .idxS 1 (.tmp 28) (.tmp 29)⟩,
            ⟨(some 31), (some (27, true)), .load none (.tmp 30)⟩,
            ⟨(some 32), (some (27, true)), .mov (.tmp 0)⟩,
            ⟨(some 33), (some (27, true)), .mov (.tmp 5)⟩,
            ⟨(some 34), (some (27, true)), .bin .sub (.tmp 33) (.const (.int .i64 1))⟩,
            ⟨(some 35), (some (27, true)), .idxS 1 (.tmp 32) (.tmp 34)⟩,
            ⟨(some 36), (some (27, true)), .load none (.tmp 35)⟩] [⟨(some 37), (some (27, true)), .bin .lss (.tmp 31) (.tmp 36)⟩,
            ⟨(some 38), (some (24, false)), .pick (.tmp 27) (.tmp 37) (.const (.bool false))⟩,
            ⟨(some 39), none, .pick (.tmp 24) (.const (.bool true)) (.tmp 38)⟩] [[], [], [], [], [], [], [], [], [], [], [], [], [], [], [], [], [], [], [], [], [], [], [], [], []] [0, 1, 5, 39])
        (.cond (.tmp 39)
          (.seq (.ops [⟨(some 4), none, .mov (.const (.bool false))⟩] [4])
          (.ret))
          (.skip))))
      (.ops [⟨(some 10), none, .mov (.tmp 5)⟩,
          ⟨(some 11), none, .bin .add (.tmp 10) (.const (.int .i64 1))⟩,
          ⟨(some 5), none, .mov (.tmp 11)⟩] [0, 1, 5]))
def c43 : AFun := ⟨
  .seq (.ops [⟨(some 4), none, .mov (.const (.bool false))⟩] [0, 1])
  (.seq (.seq (.ops [⟨(some 5), none, .mov (.const (.int .i64 0))⟩] [0, 1, 5])
  (.block 0
    (.loop [0, 1, 5]
      c43l0)))
  (.seq (.ops [⟨(some 40), none, .mov (.tmp 0)⟩,
      ⟨(some 41), none, .len false (.tmp 40)⟩,
      ⟨(some 42), none, .mov (.tmp 1)⟩,
      ⟨(some 43), none, .bin .eql (.tmp 41) (.tmp 42)⟩,
      ⟨(some 4), none, .mov (.tmp 43)⟩] [4])
  (.ret))),
  44, [(4, none)], true⟩
theorem ok43 : FunOK Tryd.prog 43 c43 := ⟨⟨Tryd.f43, _, c43.code, Tryd.func43, rfl, by kernel_rfl, rfl, by kernel_rfl, by kernel_rfl⟩⟩
/- raddle/raddleref40.twice -/
def c44l0 : AC :=
  .seq (.seq (.ops [⟨(some 4), none, .mov (.tmp 3)⟩,
          ⟨(some 5), none, .mov (.tmp 0)⟩,
          ⟨(some 6), none, .len false (.tmp 5)⟩,
          ⟨(some 7), none, .bin .lss (.tmp 4) (.tmp 6)⟩] [0, 3, 7])
      (.cond (.tmp 7)
        (.skip)
        (.exit 0)))
      (.seq (.block 1
        (.seq (.ops [⟨(some 10), none, .mov (.tmp 0)⟩,
            ⟨(some 11), none, .mov (.tmp 0)⟩,
            ⟨(some 12), none, .mov (.tmp 3)⟩,
            ⟨(some 13), none, .idxS 1 (.tmp 11) (.tmp 12)⟩,
            ⟨(some 14), none, .load none (.tmp 13)⟩,
            ⟨(some 15), none, .callF 24 [(.tmp 10), (.tmp 14)]⟩,
            ⟨(some 16), none, .mov (.tmp 3)⟩,
            ⟨(some 17), none, .bin .lss (.tmp 15) (.tmp 16)⟩] [0, 3, 17])
        (.cond (.tmp 17)
          (.seq (.ops [⟨(some 2), none, .mov (.const (.bool true))⟩] [2])
          (.ret))
          (.skip))))
      (.ops [⟨(some 8), none, .mov (.tmp 3)⟩,
          ⟨(some 9), none, .bin .add (.tmp 8) (.const (.int .i64 1))⟩,
          ⟨(some 3), none, .mov (.tmp 9)⟩] [0, 3]))
def c44 : AFun := ⟨
  .seq (.ops [⟨(some 2), none, .mov (.const (.bool false))⟩] [0])
  (.seq (.seq (.ops [⟨(some 3), none, .mov (.const (.int .i64 0))⟩] [0, 3])
  (.block 0
    (.loop [0, 3]
      c44l0)))
  (.seq (.ops [⟨(some 2), none, .mov (.const (.bool false))⟩] [2])
  (.ret))),
  18, [(2, none)], true⟩
theorem ok44 : FunOK Tryd.prog 44 c44 := ⟨⟨Tryd.f44, _, c44.code, Tryd.func44, rfl, by kernel_rfl, rfl, by kernel_rfl, by kernel_rfl⟩⟩
/- raddle/grade.fresh -/
def c45 : AFun := ⟨
  .seq (.ops [⟨(some 2), none, .box 25 (.tmp 0)⟩,
      ⟨(some 4), none, .mov (.const (.int .i64 0))⟩] [1, 2])
  (.seq (.block 0
    (.seq (.ops [⟨(some 6), none, .fldA 0 (.tmp 2)⟩,
        ⟨(some 7), none, .load none (.tmp 6)⟩,
        ⟨(some 8), none, .len false (.tmp 7)⟩,
        ⟨(some 9), none, .bin .geq (.tmp 8) (.const (.int .i64 20))⟩,
        ⟨(some 5), none, .mov (.tmp 9)⟩] [1, 2, 5])
    (.cond (.tmp 5)
      (.seq (.ops [⟨(some 4), none, .mov (.const (.int .i64 4))⟩] [4])
      (.ret))
      (.seq (.ops [⟨(some 11), none, .mov (.tmp 1)⟩,
          ⟨(some 12), none, .callF 59 [(.tmp 11)]⟩,
          ⟨(some 13), none, .un .not (.tmp 12)⟩,
          ⟨(some 10), none, .mov (.tmp 13)⟩] [1, 2, 10])
      (.cond (.tmp 10)
        (.seq (.ops [⟨(some 4), none, .mov (.const (.int .i64 8))⟩] [4])
        (.ret))
        (.seq (.ops [⟨(some 15), none, .fldA 0 (.tmp 2)⟩,
            ⟨(some 16), none, .load none (.tmp 15)⟩,
            ⟨(some 17), none, .mov (.tmp 1)⟩,
            ⟨(some 18), none, .callF 48 [(.tmp 16), (.tmp 17)]⟩,
            ⟨(some 19), none, .bin .geq (.tmp 18) (.const (.int .i64 0))⟩,
            ⟨(some 14), none, .mov (.tmp 19)⟩] [14])
        (.cond (.tmp 14)
          (.seq (.ops [⟨(some 4), none, .mov (.const (.int .i64 14))⟩] [4])
          (.ret))
          (.skip))))))))
  (.seq (.ops [⟨(some 4), none, .mov (.const (.int .i64 0))⟩] [4])
  (.ret))),
  20, [(4, none)], true⟩
theorem ok45 : FunOK Tryd.prog 45 c45 := ⟨⟨Tryd.f45, _, c45.code, Tryd.func45, rfl, by kernel_rfl, rfl, by kernel_rfl, by kernel_rfl⟩⟩
/- raddle/grade.put -/
def c46 : AFun := ⟨
  .seq (.ops [⟨(some 4), none, .box 25 (.tmp 0)⟩,
      ⟨(some 5), none, .box 3 (.tmp 1)⟩,
      ⟨(some 7), none, .box 40 (.tmp 3)⟩,
      ⟨(some 8), none, .alloc 25 [(3, (.slice none 0 0))]⟩] [2, 4, 5, 7, 8])
  (.seq (.ops [⟨(some 9), none, .alloc 3 [(1, (.int .i64 0))]⟩,
      ⟨none, none, .store 1 (.tmp 9) (.const (.int .i64 (-1)))⟩] [2, 4, 5, 7, 8, 9])
  (.seq (.ops [⟨(some 11), none, .load (some 3) (.tmp 4)⟩,
      ⟨(some 12), none, .mkFn 60 [] [(.tmp 9), (.tmp 5), (.tmp 7)]⟩,
      ⟨(some 13), none, .callF 49 [(.tmp 11), (.tmp 12)]⟩,
      ⟨(some 10), none, .alloc 25 [(3, (.slice none 0 0))]⟩,
      ⟨none, none, .store 3 (.tmp 10) (.tmp 13)⟩] [2, 4, 5, 8, 10])
  (.seq (.ops [⟨(some 14), none, .fldA 0 (.tmp 4)⟩,
      ⟨(some 15), none, .load none (.tmp 14)⟩,
      ⟨(some 16), none, .load none (.tmp 5)⟩,
      ⟨(some 17), none, .mov (.tmp 2)⟩,
      ⟨(some 18), none, .callF 62 [(.tmp 15), (.tmp 16), (.tmp 17)]⟩,
      ⟨(some 19), none, .fldA 0 (.tmp 10)⟩,
      ⟨none, none, .store 1 (.tmp 19) (.tmp 18)⟩] [8, 10])
  (.seq (.ops [⟨(some 20), none, .load (some 3) (.tmp 10)⟩,
      ⟨none, none, .store 3 (.tmp 8) (.tmp 20)⟩] [8])
  (.ret))))),
  21, [(8, (some (some 3)))], true⟩
theorem ok46 : FunOK Tryd.prog 46 c46 := ⟨⟨Tryd.f46, _, c46.code, Tryd.func46, rfl, by kernel_rfl, rfl, by kernel_rfl, by kernel_rfl⟩⟩
/- raddle/grade.words -/
def c47l0 : AC :=
  .seq (.ops [⟨(some 12), none, .bin .lss (.tmp 11) (.tmp 10)⟩] [0, 2, 3, 9, 10, 11, 12])
      (.seq (.cond (.tmp 12)
        (.skip)
        (.exit 0))
      (.seq (.block 1
        (.seq (.ops [⟨(some 13), none, .mov (.tmp 11)⟩,
            ⟨(some 14), none, .idxS 1 (.tmp 9) (.tmp 11)⟩,
            ⟨(some 15), none, .load none (.tmp 14)⟩,
            ⟨(some 4), none, .mov (.tmp 13)⟩,
            ⟨(some 5), none, .mov (.tmp 15)⟩] [0, 2, 3, 4, 5, 9, 10, 11])
        (.seq (.ops [⟨(some 16), none, .mov (.tmp 2)⟩,
            ⟨(some 17), none, .mov (.tmp 16)⟩,
            ⟨(some 18), (some (17, true)), .mov (.tmp 5)⟩,
            ⟨(some 19), (some (17, true)), .callF 59 [(.tmp 18)]⟩,
            ⟨(some 20), none, .pick (.tmp 17) (.tmp 19) (.const (.bool false))⟩,
            ⟨(some 2), none, .mov (.tmp 20)⟩] [0, 2, 3, 4, 5, 9, 10, 11])
        (.ops [⟨(some 21), none, .mov (.tmp 3)⟩,
            ⟨(some 22), none, .mov (.tmp 21)⟩,
            ⟨(some 23), (some (22, false)), .mov (.tmp 0)⟩,
            ⟨(some 24), (some (22, false)), .mov (.tmp 5)⟩,
            ⟨(some 25), (some (22, false)), .callF 48 [(.tmp 23), (.tmp 24)]⟩,
            ⟨(some 26), (some (22, false)), .mov (.tmp 4)⟩,
            ⟨(some 27), (some (22, false)), .bin .lss (.tmp 25) (.tmp 26)⟩,
            ⟨(some 28), none, .pick (.tmp 22) (.const (.bool true)) (.tmp 27)⟩,
            ⟨(some 3), none, .mov (.tmp 28)⟩] [0, 2, 3, 9, 10, 11]))))
      (.ops [⟨(some 29), none, .bin .add (.tmp 11) (.const (.int .i64 1))⟩,
          ⟨(some 11), none, .mov (.tmp 29)⟩] [0, 2, 3, 9, 10, 11])))
def c47 : AFun := ⟨
  .seq (.ops [⟨(some 2), none, .mov (.const (.bool false))⟩,
      ⟨(some 3), none, .mov (.const (.bool false))⟩] [0, 3])
  (.seq (.ops [⟨(some 6), none, .mov (.tmp 0)⟩,
      ⟨(some 7), none, .len false (.tmp 6)⟩,
      ⟨(some 8), none, .bin .gtr (.tmp 7) (.const (.int .i64 0))⟩,
      ⟨(some 2), none, .mov (.tmp 8)⟩] [0, 2, 3])
  (.seq (.seq (.ops [⟨(some 9), none, .mov (.tmp 0)⟩,
      ⟨(some 10), none, .len false (.tmp 9)⟩,
      ⟨(some 11), none, .mov (.const (.int .i64 0))⟩] [0, 2, 3, 9, 10, 11])
  (.block 0
    (.loop [0, 2, 3, 9, 10, 11]
      c47l0)))
  (.seq (.ops [⟨(some 30), none, .mov (.tmp 2)⟩,
      ⟨(some 31), none, .mov (.tmp 3)⟩,
      ⟨(some 2), none, .mov (.tmp 30)⟩,
      ⟨(some 3), none, .mov (.tmp 31)⟩] [2, 3])
  (.ret)))),
  32, [(2, none), (3, none)], true⟩
theorem ok47 : FunOK Tryd.prog 47 c47 := ⟨⟨Tryd.f47, _, c47.code, Tryd.func47, rfl, by kernel_rfl, rfl, by kernel_rfl, by kernel_rfl⟩⟩
/- raddle/grade.index[string] -/
def c48l0 : AC :=
  .seq (.ops [⟨(some 10), none, .bin .lss (.tmp 9) (.tmp 8)⟩] [1, 7, 8, 9, 10])
      (.seq (.cond (.tmp 10)
        (.skip)
        (.exit 0))
      (.seq (.block 1
        (.seq (.ops [⟨(some 11), none, .mov (.tmp 9)⟩,
            ⟨(some 12), none, .idxS 1 (.tmp 7) (.tmp 9)⟩,
            ⟨(some 13), none, .load none (.tmp 12)⟩,
            ⟨(some 5), none, .mov (.tmp 11)⟩,
            ⟨(some 6), none, .mov (.tmp 13)⟩] [1, 5, 6, 7, 8, 9])
        (.seq (.ops [⟨(some 14), none, .mov (.tmp 1)⟩,
            ⟨(some 15), none, .mov (.tmp 6)⟩,
            ⟨(some 16), none, .bin .eql (.tmp 14) (.tmp 15)⟩] [1, 5, 7, 8, 9, 16])
        (.cond (.tmp 16)
          (.seq (.ops [⟨(some 17), none, .mov (.tmp 5)⟩,
              ⟨(some 4), none, .mov (.tmp 17)⟩] [4])
          (.ret))
          (.skip)))))
      (.ops [⟨(some 18), none, .bin .add (.tmp 9) (.const (.int .i64 1))⟩,
          ⟨(some 9), none, .mov (.tmp 18)⟩] [1, 7, 8, 9])))
def c48 : AFun := ⟨
  .seq (.ops [⟨(some 4), none, .mov (.const (.int .i64 0))⟩] [0, 1])
  (.seq (.seq (.ops [⟨(some 7), none, .mov (.tmp 0)⟩,
      ⟨(some 8), none, .len false (.tmp 7)⟩,
      ⟨(some 9), none, .mov (.const (.int .i64 0))⟩] [1, 7, 8, 9])
  (.block 0
    (.loop [1, 7, 8, 9]
      c48l0)))
  (.seq (.ops [⟨(some 4), none, .mov (.const (.int .i64 (-1)))⟩] [4])
  (.ret))),
  19, [(4, none)], true⟩
theorem ok48 : FunOK Tryd.prog 48 c48 := ⟨⟨Tryd.f48, _, c48.code, Tryd.func48, rfl, by kernel_rfl, rfl, by kernel_rfl, by kernel_rfl⟩⟩
/- raddle/grade.each -/
def c49l0 : AC :=
  .seq (.ops [⟨(some 25), none, .bin .lss (.tmp 24) (.tmp 23)⟩] [1, 4, 5, 22, 23, 24, 25])
      (.seq (.cond (.tmp 25)
        (.skip)
        (.exit 0))
      (.seq (.block 1
        (.seq (.ops [⟨(some 26), none, .mov (.tmp 24)⟩,
            ⟨(some 27), none, .idxS 1 (.tmp 22) (.tmp 24)⟩,
            ⟨(some 28), none, .load none (.tmp 27)⟩,
            ⟨(some 6), none, .mov (.tmp 26)⟩,
            ⟨(some 7), none, .mov (.tmp 28)⟩] [1, 4, 5, 6, 7, 22, 23, 24])
        (.drawW [⟨⟨(some 29), none, .fldA 2 (.tmp 5)⟩, [], none⟩,
            ⟨⟨(some 30), none, .load none (.tmp 29)⟩, [], none⟩,
            ⟨⟨(some 31), none, .mov (.tmp 6)⟩, [0, 1], none⟩,
            ⟨⟨(some 32), none, .mov (.tmp 1)⟩, [0, 1, 2], none⟩,
            ⟨⟨(some 33), none, .mov (.tmp 7)⟩, [0, 1, 2, 3], none⟩,
            ⟨⟨(some 34), none, .callV (.tmp 32) [(.tmp 33)]⟩, [0, 1, 2], (some [5])⟩] [⟨(some 35), none, .idxS 1 (.tmp 30) (.tmp 31)⟩,
            ⟨none, none, .store 1 (.tmp 35) (.tmp 34)⟩] [1, 4, 5, 22, 23, 24])))
      (.ops [⟨(some 36), none, .bin .add (.tmp 24) (.const (.int .i64 1))⟩,
          ⟨(some 24), none, .mov (.tmp 36)⟩] [1, 4, 5, 22, 23, 24])))
def c49 : AFun := ⟨
  .seq (.ops [⟨(some 2), none, .box 25 (.tmp 0)⟩,
      ⟨(some 4), none, .alloc 25 [(3, (.slice none 0 0))]⟩] [1, 2, 4])
  (.seq (.drawW [⟨⟨(some 8), none, .mkRow 9 1 0 [(.string ⟨#[]⟩)] []⟩, [], none⟩,
      ⟨⟨(some 9), none, .fldA 0 (.tmp 2)⟩, [0], none⟩,
      ⟨⟨(some 10), none, .load none (.tmp 9)⟩, [0], none⟩,
      ⟨⟨(some 11), none, .app 9 1 16 (.tmp 8) (.tmp 10)⟩, [], none⟩,
      ⟨⟨(some 12), none, .mkRow 9 1 0 [(.string ⟨#[]⟩)] []⟩, [0, 1, 2, 3], none⟩,
      ⟨⟨(some 13), none, .fldA 1 (.tmp 2)⟩, [0, 1, 2, 3, 4], none⟩,
      ⟨⟨(some 14), none, .load none (.tmp 13)⟩, [0, 1, 2, 3, 4], none⟩,
      ⟨⟨(some 15), none, .app 9 1 16 (.tmp 12) (.tmp 14)⟩, [], none⟩,
      ⟨⟨(some 16), none, .fldA 2 (.tmp 2)⟩, [0, 1, 2, 3, 4, 5, 6, 7], none⟩,
      ⟨⟨(some 17), none, .load none (.tmp 16)⟩, [0, 1, 2, 3, 4, 5, 6, 7], none⟩,
      ⟨⟨(some 18), none, .len false (.tmp 17)⟩, [0, 1, 2, 3, 4, 5, 6, 7], none⟩,
      ⟨⟨(some 19), none, .mkSlice 40 1 24 [(.slice none 0 0)] (.tmp 18) (.tmp 18)⟩, [0, 1, 2, 3, 4, 5, 6, 7], none⟩,
      ⟨⟨(some 20), none, .build [(.slice none 0 0), (.slice none 0 0), (.slice none 0 0)] [(0, 1, (.tmp 11)), (1, 1, (.tmp 15)), (2, 1, (.tmp 19))]⟩, [], none⟩,
      ⟨⟨(some 5), none, .alloc 25 [(3, (.slice none 0 0))]⟩, [0, 1, 2, 3, 4, 5, 6, 7, 8, 9, 10, 11, 12], none⟩] [⟨none, none, .store 3 (.tmp 5) (.tmp 20)⟩] [1, 2, 4, 5])
  (.seq (.seq (.ops [⟨(some 21), none, .fldA 2 (.tmp 2)⟩,
      ⟨(some 22), none, .load none (.tmp 21)⟩,
      ⟨(some 23), none, .len false (.tmp 22)⟩,
      ⟨(some 24), none, .mov (.const (.int .i64 0))⟩] [1, 4, 5, 22, 23, 24])
  (.block 0
    (.loop [1, 4, 5, 22, 23, 24]
      c49l0)))
  (.seq (.ops [⟨(some 37), none, .load (some 3) (.tmp 5)⟩,
      ⟨none, none, .store 3 (.tmp 4) (.tmp 37)⟩] [4])
  (.ret)))),
  38, [(4, (some (some 3)))], false⟩
theorem ok49 : FunOK Tryd.prog 49 c49 := ⟨⟨Tryd.f49, _, c49.code, Tryd.func49, rfl, by kernel_rfl, rfl, by kernel_rfl, by kernel_rfl⟩⟩
/- raddle/grade.Snap$1 -/
def c50l0 : AC :=
  .seq (.ops [⟨(some 14), none, .bin .lss (.tmp 13) (.tmp 12)⟩] [1, 2, 5, 11, 12, 13, 14])
      (.seq (.cond (.tmp 14)
        (.skip)
        (.exit 0))
      (.seq (.block 1
        (.seq (.ops [⟨(some 15), none, .mov (.tmp 13)⟩,
            ⟨(some 16), none, .idxS 1 (.tmp 11) (.tmp 13)⟩,
            ⟨(some 17), none, .load none (.tmp 16)⟩,
            ⟨(some 6), none, .mov (.tmp 15)⟩,
            ⟨(some 7), none, .mov (.tmp 17)⟩] [1, 2, 5, 6, 7, 11, 12, 13])
        (.seq (.draw [⟨(some 18), none, .mov (.tmp 5)⟩,
            ⟨(some 19), none, .mov (.tmp 6)⟩,
            ⟨(some 20), none, .load none (.tmp 1)⟩,
            ⟨(some 21), none, .mov (.tmp 7)⟩,
            ⟨(some 22), none, .bin .mul (.const (.int .i64 2)) (.tmp 21)⟩,
            ⟨(some 23), none, .load none (.tmp 1)⟩,
            ⟨(some 24), none, .bin .add (.tmp 22) (.tmp 23)⟩,
            ⟨(some 25), none, .load none (.tmp 1)⟩,
            ⟨(some 26), none, .bin .mul (.const (.int .i64 2)) (.tmp 25)⟩,
            ⟨(some 27), none, .bin .quo (.tmp 24) (.tmp 26)⟩,
            ⟨(some 28), none, .bin .mul (.tmp 20) (.tmp 27)⟩] [⟨(some 29), none, .idxS 1 (.tmp 18) (.tmp 19)⟩,
            ⟨none, none, .store 1 (.tmp 29) (.tmp 28)⟩] [[], [], [], [], [], [], [], [], [], [], []] [1, 2, 5, 6, 11, 12, 13])
        (.ops [⟨(some 30), none, .load none (.tmp 2)⟩,
            ⟨(some 31), none, .mov (.tmp 30)⟩,
            ⟨(some 32), (some (31, true)), .mov (.tmp 5)⟩,
            ⟨(some 33), (some (31, true)), .mov (.tmp 6)⟩,
            ⟨(some 34), (some (31, true)), .idxS 1 (.tmp 32) (.tmp 33)⟩,
            ⟨(some 35), (some (31, true)), .load none (.tmp 34)⟩,
            ⟨(some 36), (some (31, true)), .bin .leq (.tmp 35) (.const (.int .i64 1000000))⟩,
            ⟨(some 37), none, .pick (.tmp 31) (.tmp 36) (.const (.bool false))⟩,
            ⟨none, none, .store 1 (.tmp 2) (.tmp 37)⟩] [1, 2, 5, 11, 12, 13]))))
      (.ops [⟨(some 38), none, .bin .add (.tmp 13) (.const (.int .i64 1))⟩,
          ⟨(some 13), none, .mov (.tmp 38)⟩] [1, 2, 5, 11, 12, 13])))
def c50 : AFun := ⟨
  .seq (.ops [⟨(some 4), none, .mov (.const (.slice none 0 0))⟩] [0, 1, 2])
  (.seq (.ops [⟨(some 8), none, .mov (.tmp 0)⟩,
      ⟨(some 9), none, .len false (.tmp 8)⟩,
      ⟨(some 10), none, .mkSlice 3 1 8 [(.int .i64 0)] (.tmp 9) (.tmp 9)⟩,
      ⟨(some 5), none, .mov (.tmp 10)⟩] [0, 1, 2, 5])
  (.seq (.seq (.ops [⟨(some 11), none, .mov (.tmp 0)⟩,
      ⟨(some 12), none, .len false (.tmp 11)⟩,
      ⟨(some 13), none, .mov (.const (.int .i64 0))⟩] [1, 2, 5, 11, 12, 13])
  (.block 0
    (.loop [1, 2, 5, 11, 12, 13]
      c50l0)))
  (.seq (.ops [⟨(some 39), none, .mov (.tmp 5)⟩,
      ⟨(some 4), none, .mov (.tmp 39)⟩] [4])
  (.ret)))),
  40, [(4, none)], false⟩
theorem ok50 : FunOK Tryd.prog 50 c50 := ⟨⟨Tryd.f50, _, c50.code, Tryd.func50, rfl, by kernel_rfl, rfl, by kernel_rfl, by kernel_rfl⟩⟩
/- (*strings.Builder).copyCheck (1 operations that the interpreter lacks) -/
def c51 : AFun := ⟨
  .seq (.ops [⟨(some 2), none, .mov (.tmp 0)⟩,
      ⟨(some 3), none, .nilChk (.tmp 2)⟩,
      ⟨(some 4), none, .fldA 0 (.tmp 3)⟩,
      ⟨(some 5), none, .load none (.tmp 4)⟩,
      ⟨(some 6), none, .eqNil 0 false (.tmp 5) (.const (.pointer none))⟩] [0, 6])
  (.cond (.tmp 6)
    (.ops [⟨(some 7), none, .mov (.tmp 0)⟩,
        ⟨(some 8), none, .mov (.tmp 0)⟩,
        ⟨(some 9), none, .toUns (.tmp 8)⟩,
        ⟨(some 10), none, .callF 63 [(.tmp 9)]⟩,
        ⟨(some 11), none, .fromUns 61 2 (.tmp 10)⟩,
        ⟨(some 12), none, .nilChk (.tmp 7)⟩,
        ⟨(some 13), none, .fldA 0 (.tmp 12)⟩,
        ⟨none, none, .store 1 (.tmp 13) (.tmp 11)⟩] [])
    (.seq (.ops [⟨(some 14), none, .mov (.tmp 0)⟩,
        ⟨(some 15), none, .nilChk (.tmp 14)⟩,
        ⟨(some 16), none, .fldA 0 (.tmp 15)⟩,
        ⟨(some 17), none, .load none (.tmp 16)⟩,
        ⟨(some 18), none, .mov (.tmp 0)⟩,
        ⟨(some 19), none, .eqPtr true (.tmp 17) (.tmp 18)⟩] [19])
    (.cond (.tmp 19)
      (.bad)
      (.skip)))),
  20, [], false⟩
theorem ok51 : FunOK Tryd.prog 51 c51 := ⟨⟨Tryd.f51, _, c51.code, Tryd.func51, rfl, by kernel_rfl, rfl, by kernel_rfl, by kernel_rfl⟩⟩
/- (*strings.Builder).Grow (1 operations that the interpreter lacks) -/
def c52 : AFun := ⟨
  .seq (.ops [⟨(some 4), none, .mov (.tmp 0)⟩,
      ⟨(some 5), none, .callF 51 [(.tmp 4)]⟩] [0, 1])
  (.seq (.seq (.ops [⟨(some 6), none, .mov (.tmp 1)⟩,
      ⟨(some 7), none, .bin .lss (.tmp 6) (.const (.int .i64 0))⟩] [0, 1, 7])
  (.cond (.tmp 7)
    (.ops [⟨(some 8), none, .mkIf 9 (.const (.string ⟨#[115, 116, 114, 105, 110, 103, 115, 46, 66, 117, 105, 108, 100, 101, 114, 46, 71, 114, 111, 119, 58, 32, 110, 101, 103, 97, 116, 105, 118, 101, 32, 99, 111, 117, 110, 116]⟩))⟩,
        ⟨none, none, .bad⟩] [0, 1])
    (.skip)))
  (.seq (.draw [⟨(some 9), none, .mov (.tmp 0)⟩,
      ⟨(some 10), none, .nilChk (.tmp 9)⟩,
      ⟨(some 11), none, .fldA 1 (.tmp 10)⟩,
      ⟨(some 12), none, .load none (.tmp 11)⟩,
      ⟨(some 13), none, .cap (.tmp 12)⟩,
      ⟨(some 14), none, .mov (.tmp 0)⟩,
      ⟨(some 15), none, .nilChk (.tmp 14)⟩,
      ⟨(some 16), none, .fldA 1 (.tmp 15)⟩,
      ⟨(some 17), none, .load none (.tmp 16)⟩,
      ⟨(some 18), none, .len false (.tmp 17)⟩,
      ⟨(some 19), none, .bin .sub (.tmp 13) (.tmp 18)⟩,
      ⟨(some 20), none, .mov (.tmp 1)⟩] [⟨(some 21), none, .bin .lss (.tmp 19) (.tmp 20)⟩] [[], [], [], [], [], [], [], [], [], [], [], []] [0, 1, 21])
  (.cond (.tmp 21)
    (.ops [⟨(some 22), none, .mov (.tmp 0)⟩,
        ⟨(some 23), none, .mov (.tmp 1)⟩,
        ⟨(some 24), none, .callF 64 [(.tmp 22), (.tmp 23)]⟩] [])
    (.skip)))),
  25, [], false⟩
theorem ok52 : FunOK Tryd.prog 52 c52 := ⟨⟨Tryd.f52, _, c52.code, Tryd.func52, rfl, by kernel_rfl, rfl, by kernel_rfl, by kernel_rfl⟩⟩
/- internal/strconv.Itoa -/
def c53 : AFun := ⟨
  .seq (.ops [⟨(some 2), none, .mov (.const (.string ⟨#[]⟩))⟩] [0])
  (.seq (.ops [⟨(some 3), none, .mov (.tmp 0)⟩,
      ⟨(some 4), none, .callF 65 [(.tmp 3), (.const (.int .i64 10))]⟩,
      ⟨(some 2), none, .mov (.tmp 4)⟩] [2])
  (.ret)),
  5, [(2, none)], true⟩
theorem ok53 : FunOK Tryd.prog 53 c53 := ⟨⟨Tryd.f53, _, c53.code, Tryd.func53, rfl, by kernel_rfl, rfl, by kernel_rfl, by kernel_rfl⟩⟩
/- strings.genSplit -/
def c54l0 : AC :=
  .seq (.seq (.ops [⟨(some 34), none, .mov (.tmp 10)⟩,
          ⟨(some 35), none, .mov (.tmp 3)⟩,
          ⟨(some 36), none, .bin .lss (.tmp 34) (.tmp 35)⟩] [0, 1, 2, 3, 9, 10, 36])
      (.cond (.tmp 36)
        (.skip)
        (.exit 0)))
      (.block 1
        (.seq (.ops [⟨(some 37), none, .mov (.tmp 0)⟩,
            ⟨(some 38), none, .mov (.tmp 1)⟩,
            ⟨(some 39), none, .callF 68 [(.tmp 37), (.tmp 38)]⟩,
            ⟨(some 11), none, .mov (.tmp 39)⟩] [0, 1, 2, 3, 9, 10, 11])
        (.seq (.seq (.ops [⟨(some 40), none, .mov (.tmp 11)⟩,
            ⟨(some 41), none, .bin .lss (.tmp 40) (.const (.int .i64 0))⟩] [0, 1, 2, 3, 9, 10, 11, 41])
        (.cond (.tmp 41)
          (.exit 0)
          (.skip)))
        (.seq (.ops [⟨(some 42), none, .mov (.tmp 9)⟩,
            ⟨(some 43), none, .mov (.tmp 10)⟩,
            ⟨(some 44), none, .mov (.tmp 0)⟩,
            ⟨(some 45), none, .mov (.tmp 11)⟩,
            ⟨(some 46), none, .mov (.tmp 2)⟩,
            ⟨(some 47), none, .bin .add (.tmp 45) (.tmp 46)⟩,
            ⟨(some 48), none, .slcS (.tmp 44) none (some (.tmp 47))⟩,
            ⟨(some 49), none, .idxS 1 (.tmp 42) (.tmp 43)⟩,
            ⟨none, none, .store 1 (.tmp 49) (.tmp 48)⟩] [0, 1, 2, 3, 9, 10, 11])
        (.seq (.ops [⟨(some 50), none, .mov (.tmp 0)⟩,
            ⟨(some 51), none, .mov (.tmp 11)⟩,
            ⟨(some 52), none, .mov (.tmp 1)⟩,
            ⟨(some 53), none, .len true (.tmp 52)⟩,
            ⟨(some 54), none, .bin .add (.tmp 51) (.tmp 53)⟩,
            ⟨(some 55), none, .slcS (.tmp 50) (some (.tmp 54)) none⟩,
            ⟨(some 0), none, .mov (.tmp 55)⟩] [0, 1, 2, 3, 9, 10])
        (.ops [⟨(some 56), none, .mov (.tmp 10)⟩,
            ⟨(some 57), none, .bin .add (.tmp 56) (.const (.int .i64 1))⟩,
            ⟨(some 10), none, .mov (.tmp 57)⟩] [0, 1, 2, 3, 9, 10]))))))
def c54 : AFun := ⟨
  .seq (.ops [⟨(some 8), none, .mov (.const (.slice none 0 0))⟩] [0, 1, 2, 3])
  (.seq (.seq (.ops [⟨(some 12), none, .mov (.tmp 3)⟩,
      ⟨(some 13), none, .bin .eql (.tmp 12) (.const (.int .i64 0))⟩] [0, 1, 2, 3, 13])
  (.cond (.tmp 13)
    (.seq (.ops [⟨(some 8), none, .mov (.const (.slice none 0 0))⟩] [8])
    (.ret))
    (.skip)))
  (.seq (.seq (.ops [⟨(some 14), none, .mov (.tmp 1)⟩,
      ⟨(some 15), none, .bin .eql (.tmp 14) (.const (.string ⟨#[]⟩))⟩] [0, 1, 2, 3, 15])
  (.cond (.tmp 15)
    (.seq (.ops [⟨(some 16), none, .mov (.tmp 0)⟩,
        ⟨(some 17), none, .mov (.tmp 3)⟩,
        ⟨(some 18), none, .callF 66 [(.tmp 16), (.tmp 17)]⟩,
        ⟨(some 8), none, .mov (.tmp 18)⟩] [8])
    (.ret))
    (.skip)))
  (.seq (.seq (.ops [⟨(some 19), none, .mov (.tmp 3)⟩,
      ⟨(some 20), none, .bin .lss (.tmp 19) (.const (.int .i64 0))⟩] [0, 1, 2, 3, 20])
  (.cond (.tmp 20)
    (.ops [⟨(some 21), none, .mov (.tmp 0)⟩,
        ⟨(some 22), none, .mov (.tmp 1)⟩,
        ⟨(some 23), none, .callF 67 [(.tmp 21), (.tmp 22)]⟩,
        ⟨(some 24), none, .bin .add (.tmp 23) (.const (.int .i64 1))⟩,
        ⟨(some 3), none, .mov (.tmp 24)⟩] [0, 1, 2, 3])
    (.skip)))
  (.seq (.ops [⟨(some 25), none, .mov (.tmp 3)⟩,
      ⟨(some 26), none, .mov (.tmp 0)⟩,
      ⟨(some 27), none, .len true (.tmp 26)⟩,
      ⟨(some 28), none, .bin .add (.tmp 27) (.const (.int .i64 1))⟩,
      ⟨(some 29), none, .mm false (.tmp 25) (.tmp 28)⟩,
      ⟨(some 3), none, .mov (.tmp 29)⟩] [0, 1, 2, 3])
  (.seq (.ops [⟨(some 30), none, .mov (.tmp 3)⟩,
      ⟨(some 31), none, .mkSlice 9 1 16 [(.string ⟨#[]⟩)] (.tmp 30) (.tmp 30)⟩,
      ⟨(some 9), none, .mov (.tmp 31)⟩] [0, 1, 2, 3, 9])
  (.seq (.ops [⟨(some 32), none, .mov (.tmp 3)⟩,
      ⟨(some 33), none, .bin .sub (.tmp 32) (.const (.int .i64 1))⟩,
      ⟨(some 3), none, .mov (.tmp 33)⟩] [0, 1, 2, 3, 9])
  (.seq (.ops [⟨(some 10), none, .mov (.const (.int .i64 0))⟩] [0, 1, 2, 3, 9, 10])
  (.seq (.block 0
    (.loop [0, 1, 2, 3, 9, 10]
      c54l0))
  (.seq (.ops [⟨(some 58), none, .mov (.tmp 9)⟩,
      ⟨(some 59), none, .mov (.tmp 10)⟩,
      ⟨(some 60), none, .mov (.tmp 0)⟩,
      ⟨(some 61), none, .idxS 1 (.tmp 58) (.tmp 59)⟩,
      ⟨none, none, .store 1 (.tmp 61) (.tmp 60)⟩] [9, 10])
  (.seq (.ops [⟨(some 62), none, .mov (.tmp 9)⟩,
      ⟨(some 63), none, .mov (.tmp 10)⟩,
      ⟨(some 64), none, .bin .add (.tmp 63) (.const (.int .i64 1))⟩,
      ⟨(some 65), none, .slc 1 (.tmp 62) none (some (.tmp 64)) none⟩,
      ⟨(some 8), none, .mov (.tmp 65)⟩] [8])
  (.ret))))))))))),
  66, [(8, none)], true⟩
theorem ok54 : FunOK Tryd.prog 54 c54 := ⟨⟨Tryd.f54, _, c54.code, Tryd.func54, rfl, by kernel_rfl, rfl, by kernel_rfl, by kernel_rfl⟩⟩
/- internal/stringslite.TrimSuffix -/
def c55 : AFun := ⟨
  .seq (.ops [⟨(some 4), none, .mov (.const (.string ⟨#[]⟩))⟩] [0, 1])
  (.seq (.seq (.ops [⟨(some 5), none, .mov (.tmp 0)⟩,
      ⟨(some 6), none, .mov (.tmp 1)⟩,
      ⟨(some 7), none, .callF 69 [(.tmp 5), (.tmp 6)]⟩] [0, 1, 7])
  (.cond (.tmp 7)
    (.seq (.ops [⟨(some 8), none, .mov (.tmp 0)⟩,
        ⟨(some 9), none, .mov (.tmp 0)⟩,
        ⟨(some 10), none, .len true (.tmp 9)⟩,
        ⟨(some 11), none, .mov (.tmp 1)⟩,
        ⟨(some 12), none, .len true (.tmp 11)⟩,
        ⟨(some 13), none, .bin .sub (.tmp 10) (.tmp 12)⟩,
        ⟨(some 14), none, .slcS (.tmp 8) none (some (.tmp 13))⟩,
        ⟨(some 4), none, .mov (.tmp 14)⟩] [4])
    (.ret))
    (.skip)))
  (.seq (.ops [⟨(some 15), none, .mov (.tmp 0)⟩,
      ⟨(some 4), none, .mov (.tmp 15)⟩] [4])
  (.ret))),
  16, [(4, none)], true⟩
theorem ok55 : FunOK Tryd.prog 55 c55 := ⟨⟨Tryd.f55, _, c55.code, Tryd.func55, rfl, by kernel_rfl, rfl, by kernel_rfl, by kernel_rfl⟩⟩
/- internal/strconv.Atoi -/
def c56l0 : AC :=
  .seq (.ops [⟨(some 50), none, .bin .lss (.tmp 49) (.tmp 48)⟩] [5, 6, 47, 48, 49, 50])
        (.seq (.cond (.tmp 50)
          (.skip)
          (.exit 0))
        (.seq (.block 1
          (.seq (.ops [⟨(some 51), none, .idxS 1 (.tmp 47) (.tmp 49)⟩,
              ⟨(some 52), none, .load none (.tmp 51)⟩,
              ⟨(some 8), none, .mov (.tmp 52)⟩] [5, 6, 8, 47, 48, 49])
          (.seq (.ops [⟨(some 53), none, .mov (.tmp 8)⟩,
              ⟨(some 54), none, .bin .sub (.tmp 53) (.const (.int .u8 48))⟩,
              ⟨(some 8), none, .mov (.tmp 54)⟩] [5, 6, 8, 47, 48, 49])
          (.seq (.seq (.ops [⟨(some 55), none, .mov (.tmp 8)⟩,
              ⟨(some 56), none, .bin .gtr (.tmp 55) (.const (.int .u8 9))⟩] [5, 6, 8, 47, 48, 49, 56])
          (.cond (.tmp 56)
            (.seq (.ops [⟨(some 57), none, .mkIf 97 (.const (.int .i64 2))⟩,
                ⟨(some 2), none, .mov (.const (.int .i64 0))⟩,
                ⟨(some 3), none, .mov (.tmp 57)⟩] [2, 3])
            (.ret))
            (.skip)))
          (.ops [⟨(some 58), none, .mov (.tmp 6)⟩,
              ⟨(some 59), none, .bin .mul (.tmp 58) (.const (.int .i64 10))⟩,
              ⟨(some 60), none, .mov (.tmp 8)⟩,
              ⟨(some 61), none, .convI .i64 (.tmp 60)⟩,
              ⟨(some 62), none, .bin .add (.tmp 59) (.tmp 61)⟩,
              ⟨(some 6), none, .mov (.tmp 62)⟩] [5, 6, 47, 48, 49])))))
        (.ops [⟨(some 63), none, .bin .add (.tmp 49) (.const (.int .i64 1))⟩,
            ⟨(some 49), none, .mov (.tmp 63)⟩] [5, 6, 47, 48, 49])))
def c56 : AFun := ⟨
  .seq (.ops [⟨(some 2), none, .mov (.const (.int .i64 0))⟩,
      ⟨(some 3), none, .mov (.const .nilIface)⟩] [0])
  (.seq (.ops [⟨(some 11), none, .mov (.tmp 0)⟩,
      ⟨(some 12), none, .len true (.tmp 11)⟩,
      ⟨(some 4), none, .mov (.tmp 12)⟩] [0, 4])
  (.seq (.seq (.ops [⟨(some 13), none, .mov (.const (.bool false))⟩,
      ⟨(some 14), (some (13, true)), .mov (.tmp 4)⟩,
      ⟨(some 15), (some (13, true)), .bin .lss (.const (.int .i64 0)) (.tmp 14)⟩,
      ⟨(some 16), (some (13, true)), .mov (.tmp 15)⟩,
      ⟨(some 17), (some (16, true)), .mov (.tmp 4)⟩,
      ⟨(some 18), (some (16, true)), .bin .lss (.tmp 17) (.const (.int .i64 10))⟩,
      ⟨(some 19), (some (13, true)), .pick (.tmp 16) (.tmp 18) (.const (.bool false))⟩,
      ⟨(some 20), none, .pick (.tmp 13) (.tmp 19) (.const (.bool false))⟩,
      ⟨(some 21), none, .mov (.tmp 20)⟩,
      ⟨(some 22), (some (21, false)), .mov (.const (.bool true))⟩,
      ⟨(some 23), (some (22, true)), .mov (.tmp 4)⟩,
      ⟨(some 24), (some (22, true)), .bin .lss (.const (.int .i64 0)) (.tmp 23)⟩,
      ⟨(some 25), (some (22, true)), .mov (.tmp 24)⟩,
      ⟨(some 26), (some (25, true)), .mov (.tmp 4)⟩,
      ⟨(some 27), (some (25, true)), .bin .lss (.tmp 26) (.const (.int .i64 19))⟩,
      ⟨(some 28), (some (22, true)), .pick (.tmp 25) (.tmp 27) (.const (.bool false))⟩,
      ⟨(some 29), (some (21, false)), .pick (.tmp 22) (.tmp 28) (.const (.bool false))⟩,
      ⟨(some 30), none, .pick (.tmp 21) (.const (.bool true)) (.tmp 29)⟩] [0, 30])
  (.cond (.tmp 30)
    (.seq (.ops [⟨(some 31), none, .mov (.tmp 0)⟩,
        ⟨(some 5), none, .mov (.tmp 31)⟩] [0, 5])
    (.seq (.seq (.ops [⟨(some 32), none, .mov (.tmp 0)⟩,
        ⟨(some 33), none, .idxStr (.tmp 32) (.const (.int .i64 0))⟩,
        ⟨(some 34), none, .bin .eql (.tmp 33) (.const (.int .u8 45))⟩,
        ⟨(some 35), none, .mov (.tmp 34)⟩,
        ⟨(some 36), (some (35, false)), .mov (.tmp 0)⟩,
        ⟨(some 37), (some (35, false)), .idxStr (.tmp 36) (.const (.int .i64 0))⟩,
        ⟨(some 38), (some (35, false)), .bin .eql (.tmp 37) (.const (.int .u8 43))⟩,
        ⟨(some 39), none, .pick (.tmp 35) (.const (.bool true)) (.tmp 38)⟩] [0, 5, 39])
    (.cond (.tmp 39)
      (.seq (.ops [⟨(some 40), none, .mov (.tmp 0)⟩,
          ⟨(some 41), none, .slcS (.tmp 40) (some (.const (.int .i64 1))) none⟩,
          ⟨(some 0), none, .mov (.tmp 41)⟩] [0, 5])
      (.seq (.ops [⟨(some 42), none, .mov (.tmp 0)⟩,
          ⟨(some 43), none, .len true (.tmp 42)⟩,
          ⟨(some 44), none, .bin .lss (.tmp 43) (.const (.int .i64 1))⟩] [0, 5, 44])
      (.cond (.tmp 44)
        (.seq (.ops [⟨(some 45), none, .mkIf 97 (.const (.int .i64 2))⟩,
            ⟨(some 2), none, .mov (.const (.int .i64 0))⟩,
            ⟨(some 3), none, .mov (.tmp 45)⟩] [2, 3])
        (.ret))
        (.skip))))
      (.skip)))
    (.seq (.ops [⟨(some 6), none, .mov (.const (.int .i64 0))⟩] [0, 5, 6])
    (.seq (.seq (.ops [⟨(some 46), none, .mov (.tmp 0)⟩,
        ⟨(some 47), none, .s2b 5 (.tmp 46)⟩,
        ⟨(some 48), none, .len false (.tmp 47)⟩,
        ⟨(some 49), none, .mov (.const (.int .i64 0))⟩] [5, 6, 47, 48, 49])
    (.block 0
      (.loop [5, 6, 47, 48, 49]
        c56l0)))
    (.seq (.seq (.ops [⟨(some 64), none, .mov (.tmp 5)⟩,
        ⟨(some 65), none, .idxStr (.tmp 64) (.const (.int .i64 0))⟩,
        ⟨(some 66), none, .bin .eql (.tmp 65) (.const (.int .u8 45))⟩] [6, 66])
    (.cond (.tmp 66)
      (.ops [⟨(some 67), none, .mov (.tmp 6)⟩,
          ⟨(some 68), none, .un .neg (.tmp 67)⟩,
          ⟨(some 6), none, .mov (.tmp 68)⟩] [6])
      (.skip)))
    (.seq (.ops [⟨(some 69), none, .mov (.tmp 6)⟩,
        ⟨(some 2), none, .mov (.tmp 69)⟩,
        ⟨(some 3), none, .mov (.const .nilIface)⟩] [2, 3])
    (.ret)))))))
    (.skip)))
  (.seq (.ops [⟨(some 71), none, .mov (.tmp 0)⟩,
      ⟨(some 72), none, .callF 70 [(.tmp 71), (.const (.int .i64 10)), (.const (.int .i64 0))]⟩,
      ⟨(some 70), none, .mov (.tmp 72)⟩,
      ⟨(some 73), none, .ext (.tmp 70) 0⟩,
      ⟨(some 74), none, .ext (.tmp 70) 1⟩,
      ⟨(some 9), none, .mov (.tmp 73)⟩,
      ⟨(some 10), none, .mov (.tmp 74)⟩] [9, 10])
  (.seq (.ops [⟨(some 75), none, .mov (.tmp 9)⟩,
      ⟨(some 76), none, .mov (.tmp 10)⟩,
      ⟨(some 2), none, .mov (.tmp 75)⟩,
      ⟨(some 3), none, .mov (.tmp 76)⟩] [2, 3])
  (.ret))))),
  77, [(2, none), (3, none)], true⟩
theorem ok56 : FunOK Tryd.prog 56 c56 := ⟨⟨Tryd.f56, _, c56.code, Tryd.func56, rfl, by kernel_rfl, rfl, by kernel_rfl, by kernel_rfl⟩⟩
/- strconv.toError -/
def c57 : AFun := ⟨
  .seq (.ops [⟨(some 10), none, .mov (.const .nilIface)⟩] [0, 1, 2, 3, 4])
  (.seq (.seq (.ops [⟨(some 11), none, .mov (.tmp 4)⟩] [0, 1, 2, 3, 4, 11])
  (.block 0
    (.seq (.ops [⟨(some 13), none, .mkIf 97 (.const (.int .i64 2))⟩,
        ⟨(some 14), none, .eqIf false false [2, 3, 5, 6, 12, 21, 27, 97, 105, 116, 124, 146, 147, 149, 150] (.tmp 11) (.tmp 13)⟩,
        ⟨(some 12), none, .mov (.tmp 14)⟩] [0, 1, 2, 3, 4, 11, 12])
    (.cond (.tmp 12)
      (.seq (.ops [⟨(some 15), none, .mov (.tmp 0)⟩,
          ⟨(some 16), none, .mov (.tmp 1)⟩,
          ⟨(some 17), none, .callF 71 [(.tmp 15), (.tmp 16)]⟩,
          ⟨(some 18), none, .mkIf 100 (.tmp 17)⟩,
          ⟨(some 10), none, .mov (.tmp 18)⟩] [10])
      (.ret))
      (.seq (.ops [⟨(some 20), none, .mkIf 97 (.const (.int .i64 1))⟩,
          ⟨(some 21), none, .eqIf false false [2, 3, 5, 6, 12, 21, 27, 97, 105, 116, 124, 146, 147, 149, 150] (.tmp 11) (.tmp 20)⟩,
          ⟨(some 19), none, .mov (.tmp 21)⟩] [0, 1, 2, 3, 4, 11, 19])
      (.cond (.tmp 19)
        (.seq (.ops [⟨(some 22), none, .mov (.tmp 0)⟩,
            ⟨(some 23), none, .mov (.tmp 1)⟩,
            ⟨(some 24), none, .callF 72 [(.tmp 22), (.tmp 23)]⟩,
            ⟨(some 25), none, .mkIf 100 (.tmp 24)⟩,
            ⟨(some 10), none, .mov (.tmp 25)⟩] [10])
        (.ret))
        (.seq (.ops [⟨(some 27), none, .mkIf 97 (.const (.int .i64 3))⟩,
            ⟨(some 28), none, .eqIf false false [2, 3, 5, 6, 12, 21, 27, 97, 105, 116, 124, 146, 147, 149, 150] (.tmp 11) (.tmp 27)⟩,
            ⟨(some 26), none, .mov (.tmp 28)⟩] [0, 1, 2, 3, 4, 11, 26])
        (.cond (.tmp 26)
          (.seq (.ops [⟨(some 29), none, .mov (.tmp 0)⟩,
              ⟨(some 30), none, .mov (.tmp 1)⟩,
              ⟨(some 31), none, .mov (.tmp 2)⟩,
              ⟨(some 32), none, .callF 73 [(.tmp 29), (.tmp 30), (.tmp 31)]⟩,
              ⟨(some 33), none, .mkIf 100 (.tmp 32)⟩,
              ⟨(some 10), none, .mov (.tmp 33)⟩] [10])
          (.ret))
          (.seq (.ops [⟨(some 35), none, .mkIf 97 (.const (.int .i64 4))⟩,
              ⟨(some 36), none, .eqIf false false [2, 3, 5, 6, 12, 21, 27, 97, 105, 116, 124, 146, 147, 149, 150] (.tmp 11) (.tmp 35)⟩,
              ⟨(some 34), none, .mov (.tmp 36)⟩] [0, 1, 3, 4, 34])
          (.cond (.tmp 34)
            (.seq (.ops [⟨(some 37), none, .mov (.tmp 0)⟩,
                ⟨(some 38), none, .mov (.tmp 1)⟩,
                ⟨(some 39), none, .mov (.tmp 3)⟩,
                ⟨(some 40), none, .callF 74 [(.tmp 37), (.tmp 38), (.tmp 39)]⟩,
                ⟨(some 41), none, .mkIf 100 (.tmp 40)⟩,
                ⟨(some 10), none, .mov (.tmp 41)⟩] [10])
            (.ret))
            (.skip)))))))))))
  (.seq (.ops [⟨(some 42), none, .mov (.tmp 4)⟩,
      ⟨(some 10), none, .mov (.tmp 42)⟩] [10])
  (.ret))),
  43, [(10, none)], true⟩
theorem ok57 : FunOK Tryd.prog 57 c57 := ⟨⟨Tryd.f57, _, c57.code, Tryd.func57, rfl, by kernel_rfl, rfl, by kernel_rfl, by kernel_rfl⟩⟩
/- raddle/raddleref40.Word -/
def c58l0 : AC :=
  .seq (.seq (.ops [⟨(some 4), none, .mov (.tmp 3)⟩,
          ⟨(some 5), none, .mov (.tmp 0)⟩,
          ⟨(some 6), none, .len true (.tmp 5)⟩,
          ⟨(some 7), none, .bin .lss (.tmp 4) (.tmp 6)⟩] [0, 3, 7])
      (.cond (.tmp 7)
        (.skip)
        (.exit 0)))
      (.seq (.block 1
        (.seq (.ops [⟨(some 10), none, .mov (.tmp 0)⟩,
            ⟨(some 11), none, .mov (.tmp 3)⟩,
            ⟨(some 12), none, .idxStr (.tmp 10) (.tmp 11)⟩,
            ⟨(some 13), none, .bin .neq (.tmp 12) (.const (.int .u8 45))⟩,
            ⟨(some 14), none, .mov (.tmp 13)⟩,
            ⟨(some 15), (some (14, true)), .mov (.tmp 0)⟩,
            ⟨(some 16), (some (14, true)), .mov (.tmp 3)⟩,
            ⟨(some 17), (some (14, true)), .idxStr (.tmp 15) (.tmp 16)⟩,
            ⟨(some 18), (some (14, true)), .bin .lss (.tmp 17) (.const (.int .u8 97))⟩,
            ⟨(some 19), (some (14, true)), .mov (.tmp 18)⟩,
            ⟨(some 20), (some (19, false)), .mov (.tmp 0)⟩,
            ⟨(some 21), (some (19, false)), .mov (.tmp 3)⟩,
            ⟨(some 22), (some (19, false)), .idxStr (.tmp 20) (.tmp 21)⟩,
            ⟨(some 23), (some (19, false)), .bin .gtr (.tmp 22) (.const (.int .u8 122))⟩,
            ⟨(some 24), (some (14, true)), .pick (.tmp 19) (.const (.bool true)) (.tmp 23)⟩,
            ⟨(some 25), none, .pick (.tmp 14) (.tmp 24) (.const (.bool false))⟩,
            ⟨(some 26), none, .mov (.tmp 25)⟩,
            ⟨(some 27), (some (26, true)), .mov (.tmp 0)⟩,
            ⟨(some 28), (some (26, true)), .mov (.tmp 3)⟩,
            ⟨(some 29), (some (26, true)), .idxStr (.tmp 27) (.tmp 28)⟩,
            ⟨(some 30), (some (26, true)), .bin .lss (.tmp 29) (.const (.int .u8 48))⟩,
            ⟨(some 31), (some (26, true)), .mov (.tmp 30)⟩,
            ⟨(some 32), (some (31, false)), .mov (.tmp 0)⟩,
            ⟨(some 33), (some (31, false)), .mov (.tmp 3)⟩,
            ⟨(some 34), (some (31, false)), .idxStr (.tmp 32) (.tmp 33)⟩,
            ⟨(some 35), (some (31, false)), .bin .gtr (.tmp 34) (.const (.int .u8 57))⟩,
            ⟨(some 36), (some (26, true)), .pick (.tmp 31) (.const (.bool true)) (.tmp 35)⟩,
            ⟨(some 37), none, .pick (.tmp 26) (.tmp 36) (.const (.bool false))⟩] [0, 3, 37])
        (.cond (.tmp 37)
          (.seq (.ops [⟨(some 2), none, .mov (.const (.bool false))⟩] [2])
          (.ret))
          (.skip))))
      (.ops [⟨(some 8), none, .mov (.tmp 3)⟩,
          ⟨(some 9), none, .bin .add (.tmp 8) (.const (.int .i64 1))⟩,
          ⟨(some 3), none, .mov (.tmp 9)⟩] [0, 3]))
def c58 : AFun := ⟨
  .seq (.ops [⟨(some 2), none, .mov (.const (.bool false))⟩] [0])
  (.seq (.seq (.ops [⟨(some 3), none, .mov (.const (.int .i64 0))⟩] [0, 3])
  (.block 0
    (.loop [0, 3]
      c58l0)))
  (.seq (.ops [⟨(some 38), none, .mov (.tmp 0)⟩,
      ⟨(some 39), none, .len true (.tmp 38)⟩,
      ⟨(some 40), none, .bin .geq (.tmp 39) (.const (.int .i64 1))⟩,
      ⟨(some 41), none, .mov (.tmp 40)⟩,
      ⟨(some 42), (some (41, true)), .mov (.tmp 0)⟩,
      ⟨(some 43), (some (41, true)), .len true (.tmp 42)⟩,
      ⟨(some 44), (some (41, true)), .bin .leq (.tmp 43) (.const (.int .i64 40))⟩,
      ⟨(some 45), none, .pick (.tmp 41) (.tmp 44) (.const (.bool false))⟩,
      ⟨(some 2), none, .mov (.tmp 45)⟩] [2])
  (.ret))),
  46, [(2, none)], true⟩
theorem ok58 : FunOK Tryd.prog 58 c58 := ⟨⟨Tryd.f58, _, c58.code, Tryd.func58, rfl, by kernel_rfl, rfl, by kernel_rfl, by kernel_rfl⟩⟩
/- raddle/grade.word -/
def c59l0 : AC :=
  .seq (.ops [⟨(some 17), none, .bin .lss (.tmp 16) (.tmp 15)⟩] [14, 15, 16, 17])
      (.seq (.cond (.tmp 17)
        (.skip)
        (.exit 0))
      (.seq (.block 1
        (.seq (.ops [⟨(some 18), none, .idxS 1 (.tmp 14) (.tmp 16)⟩,
            ⟨(some 19), none, .load none (.tmp 18)⟩,
            ⟨(some 4), none, .mov (.tmp 19)⟩] [4, 14, 15, 16])
        (.seq (.ops [⟨(some 20), none, .mov (.tmp 4)⟩,
            ⟨(some 21), none, .bin .neq (.tmp 20) (.const (.int .u8 45))⟩,
            ⟨(some 22), none, .mov (.tmp 21)⟩,
            ⟨(some 23), (some (22, true)), .mov (.tmp 4)⟩,
            ⟨(some 24), (some (22, true)), .bin .lss (.tmp 23) (.const (.int .u8 97))⟩,
            ⟨(some 25), (some (22, true)), .mov (.tmp 24)⟩,
            ⟨(some 26), (some (25, false)), .mov (.tmp 4)⟩,
            ⟨(some 27), (some (25, false)), .bin .gtr (.tmp 26) (.const (.int .u8 122))⟩,
            ⟨(some 28), (some (22, true)), .pick (.tmp 25) (.const (.bool true)) (.tmp 27)⟩,
            ⟨(some 29), none, .pick (.tmp 22) (.tmp 28) (.const (.bool false))⟩,
            ⟨(some 30), none, .mov (.tmp 29)⟩,
            ⟨(some 31), (some (30, true)), .mov (.tmp 4)⟩,
            ⟨(some 32), (some (30, true)), .bin .lss (.tmp 31) (.const (.int .u8 48))⟩,
            ⟨(some 33), (some (30, true)), .mov (.tmp 32)⟩,
            ⟨(some 34), (some (33, false)), .mov (.tmp 4)⟩,
            ⟨(some 35), (some (33, false)), .bin .gtr (.tmp 34) (.const (.int .u8 57))⟩,
            ⟨(some 36), (some (30, true)), .pick (.tmp 33) (.const (.bool true)) (.tmp 35)⟩,
            ⟨(some 37), none, .pick (.tmp 30) (.tmp 36) (.const (.bool false))⟩] [14, 15, 16, 37])
        (.cond (.tmp 37)
          (.seq (.ops [⟨(some 2), none, .mov (.const (.bool false))⟩] [2])
          (.ret))
          (.skip)))))
      (.ops [⟨(some 38), none, .bin .add (.tmp 16) (.const (.int .i64 1))⟩,
          ⟨(some 16), none, .mov (.tmp 38)⟩] [14, 15, 16])))
def c59 : AFun := ⟨
  .seq (.ops [⟨(some 2), none, .mov (.const (.bool false))⟩] [0])
  (.seq (.seq (.ops [⟨(some 5), none, .mov (.tmp 0)⟩,
      ⟨(some 6), none, .len true (.tmp 5)⟩,
      ⟨(some 7), none, .bin .eql (.tmp 6) (.const (.int .i64 0))⟩,
      ⟨(some 8), none, .mov (.tmp 7)⟩,
      ⟨(some 9), (some (8, false)), .mov (.tmp 0)⟩,
      ⟨(some 10), (some (8, false)), .len true (.tmp 9)⟩,
      ⟨(some 11), (some (8, false)), .bin .gtr (.tmp 10) (.const (.int .i64 40))⟩,
      ⟨(some 12), none, .pick (.tmp 8) (.const (.bool true)) (.tmp 11)⟩] [0, 12])
  (.cond (.tmp 12)
    (.seq (.ops [⟨(some 2), none, .mov (.const (.bool false))⟩] [2])
    (.ret))
    (.skip)))
  (.seq (.seq (.ops [⟨(some 13), none, .mov (.tmp 0)⟩,
      ⟨(some 14), none, .s2b 5 (.tmp 13)⟩,
      ⟨(some 15), none, .len false (.tmp 14)⟩,
      ⟨(some 16), none, .mov (.const (.int .i64 0))⟩] [14, 15, 16])
  (.block 0
    (.loop [14, 15, 16]
      c59l0)))
  (.seq (.ops [⟨(some 2), none, .mov (.const (.bool true))⟩] [2])
  (.ret)))),
  39, [(2, none)], true⟩
theorem ok59 : FunOK Tryd.prog 59 c59 := ⟨⟨Tryd.f59, _, c59.code, Tryd.func59, rfl, by kernel_rfl, rfl, by kernel_rfl, by kernel_rfl⟩⟩
/- raddle/grade.put$1 -/
def c60 : AFun := ⟨
  .seq (.ops [⟨(some 5), none, .mov (.const (.slice none 0 0))⟩] [0, 1, 2, 3])
  (.seq (.ops [⟨(some 6), none, .load none (.tmp 1)⟩,
      ⟨(some 7), none, .bin .add (.tmp 6) (.const (.int .i64 1))⟩,
      ⟨none, none, .store 1 (.tmp 1) (.tmp 7)⟩] [0, 1, 2, 3])
  (.seq (.draw [⟨(some 8), none, .mov (.tmp 0)⟩,
      ⟨(some 9), none, .load none (.tmp 2)⟩,
      ⟨(some 10), none, .load none (.tmp 3)⟩,
      ⟨(some 11), none, .load none (.tmp 1)⟩,
      ⟨(some 12), none, .idxS 1 (.tmp 10) (.tmp 11)⟩,
      ⟨(some 13), none, .load none (.tmp 12)⟩] [⟨(some 14), none, .callF 61 [(.tmp 8), (.tmp 9), (.tmp 13)]⟩,
      ⟨(some 5), none, .mov (.tmp 14)⟩] [[], [], [], [], [], []] [5])
  (.ret))),
  15, [(5, none)], false⟩
theorem ok60 : FunOK Tryd.prog 60 c60 := ⟨⟨Tryd.f60, _, c60.code, Tryd.func60, rfl, by kernel_rfl, rfl, by kernel_rfl, by kernel_rfl⟩⟩
/- raddle/grade.with[int] -/
def c61 : AFun := ⟨
  .seq (.ops [⟨(some 6), none, .mov (.const (.slice none 0 0))⟩] [0, 1, 2])
  (.seq (.ops [⟨(some 8), none, .mkRow 3 1 0 [(.int .i64 0)] []⟩,
      ⟨(some 9), none, .mov (.tmp 0)⟩,
      ⟨(some 10), none, .mov (.tmp 1)⟩,
      ⟨(some 11), none, .slc 1 (.tmp 9) none (some (.tmp 10)) none⟩,
      ⟨(some 12), none, .app 3 1 8 (.tmp 8) (.tmp 11)⟩,
      ⟨(some 7), none, .mov (.tmp 12)⟩] [0, 1, 2, 7])
  (.seq (.drawW [⟨⟨(some 13), none, .mov (.tmp 7)⟩, [], none⟩,
      ⟨⟨(some 14), none, .mov (.tmp 2)⟩, [0], none⟩,
      ⟨⟨(some 15), none, .mkRow 3 1 1 [(.int .i64 0)] [(0, 1, (.tmp 14))]⟩, [0], none⟩,
      ⟨⟨(some 16), none, .app 3 1 8 (.tmp 13) (.tmp 15)⟩, [], none⟩,
      ⟨⟨(some 17), none, .mov (.tmp 0)⟩, [0, 1, 2, 3], none⟩,
      ⟨⟨(some 18), none, .mov (.tmp 1)⟩, [0, 1, 2, 3, 4], none⟩,
      ⟨⟨(some 19), none, .slc 1 (.tmp 17) (some (.tmp 18)) none none⟩, [0, 1, 2, 3], none⟩] [⟨(some 20), none, .app 3 1 8 (.tmp 16) (.tmp 19)⟩,
      ⟨(some 6), none, .mov (.tmp 20)⟩] [6])
  (.ret))),
  21, [(6, none)], true⟩
theorem ok61 : FunOK Tryd.prog 61 c61 := ⟨⟨Tryd.f61, _, c61.code, Tryd.func61, rfl, by kernel_rfl, rfl, by kernel_rfl, by kernel_rfl⟩⟩
/- raddle/grade.with[string] -/
def c62 : AFun := ⟨
  .seq (.ops [⟨(some 6), none, .mov (.const (.slice none 0 0))⟩] [0, 1, 2])
  (.seq (.ops [⟨(some 8), none, .mkRow 9 1 0 [(.string ⟨#[]⟩)] []⟩,
      ⟨(some 9), none, .mov (.tmp 0)⟩,
      ⟨(some 10), none, .mov (.tmp 1)⟩,
      ⟨(some 11), none, .slc 1 (.tmp 9) none (some (.tmp 10)) none⟩,
      ⟨(some 12), none, .app 9 1 16 (.tmp 8) (.tmp 11)⟩,
      ⟨(some 7), none, .mov (.tmp 12)⟩] [0, 1, 2, 7])
  (.seq (.drawW [⟨⟨(some 13), none, .mov (.tmp 7)⟩, [], none⟩,
      ⟨⟨(some 14), none, .mov (.tmp 2)⟩, [0], none⟩,
      ⟨⟨(some 15), none, .mkRow 9 1 1 [(.string ⟨#[]⟩)] [(0, 1, (.tmp 14))]⟩, [0], none⟩,
      ⟨⟨(some 16), none, .app 9 1 16 (.tmp 13) (.tmp 15)⟩, [], none⟩,
      ⟨⟨(some 17), none, .mov (.tmp 0)⟩, [0, 1, 2, 3], none⟩,
      ⟨⟨(some 18), none, .mov (.tmp 1)⟩, [0, 1, 2, 3, 4], none⟩,
      ⟨⟨(some 19), none, .slc 1 (.tmp 17) (some (.tmp 18)) none none⟩, [0, 1, 2, 3], none⟩] [⟨(some 20), none, .app 9 1 16 (.tmp 16) (.tmp 19)⟩,
      ⟨(some 6), none, .mov (.tmp 20)⟩] [6])
  (.ret))),
  21, [(6, none)], true⟩
theorem ok62 : FunOK Tryd.prog 62 c62 := ⟨⟨Tryd.f62, _, c62.code, Tryd.func62, rfl, by kernel_rfl, rfl, by kernel_rfl, by kernel_rfl⟩⟩
/- (*strings.Builder).grow -/
def c64 : AFun := ⟨
  .seq (.draw [⟨(some 5), none, .mov (.tmp 0)⟩,
      ⟨(some 6), none, .nilChk (.tmp 5)⟩,
      ⟨(some 7), none, .fldA 1 (.tmp 6)⟩,
      ⟨(some 8), none, .load none (.tmp 7)⟩,
      ⟨(some 9), none, .cap (.tmp 8)⟩,
      ⟨(some 10), none, .bin .mul (.const (.int .i64 2)) (.tmp 9)⟩,
      ⟨(some 11), none, .mov (.tmp 1)⟩,
      ⟨(some 12), none, .bin .add (.tmp 10) (.tmp 11)⟩,
      ⟨(some 13), none, .callF 75 [(.tmp 12)]⟩,
      ⟨(some 14), none, .mov (.tmp 0)⟩,
      ⟨(some 15), none, .nilChk (.tmp 14)⟩,
      ⟨(some 16), none, .fldA 1 (.tmp 15)⟩,
      ⟨(some 17), none, .load none (.tmp 16)⟩,
      ⟨(some 18), none, .len false (.tmp 17)⟩] [⟨(some 19), none, .slc 1 (.tmp 13) none (some (.tmp 18)) none⟩,
      ⟨(some 4), none, .mov (.tmp 19)⟩] [[], [], [], [], [], [], [], [], [], [false, false, false, false, false, false, false, false, false], [true, false, false, false, false, false, false, false, false, false], [true, true, false, false, false, false, false, false, false, false, false], [true, true, true, false, false, false, false, false, false, false, false, false], [true, true, true, true, false, false, false, false, false, false, false, false, false]] [0, 4])
  (.seq (.ops [⟨(some 20), none, .mov (.tmp 4)⟩,
      ⟨(some 21), none, .mov (.tmp 0)⟩,
      ⟨(some 22), none, .nilChk (.tmp 21)⟩,
      ⟨(some 23), none, .fldA 1 (.tmp 22)⟩,
      ⟨(some 24), none, .load none (.tmp 23)⟩,
      ⟨(some 25), none, .copy 1 (.tmp 20) (.tmp 24)⟩] [0, 4])
  (.ops [⟨(some 26), none, .mov (.tmp 0)⟩,
      ⟨(some 27), none, .mov (.tmp 4)⟩,
      ⟨(some 28), none, .nilChk (.tmp 26)⟩,
      ⟨(some 29), none, .fldA 1 (.tmp 28)⟩,
      ⟨none, none, .store 1 (.tmp 29) (.tmp 27)⟩] [])),
  30, [], false⟩
theorem ok64 : FunOK Tryd.prog 64 c64 := ⟨⟨Tryd.f64, _, c64.code, Tryd.func64, rfl, by kernel_rfl, rfl, by kernel_rfl, by kernel_rfl⟩⟩
/- internal/strconv.FormatInt -/
def c65 : AFun := ⟨
  .seq (.ops [⟨(some 4), none, .mov (.const (.string ⟨#[]⟩))⟩] [0, 1])
  (.seq (.seq (.ops [⟨(some 10), none, .mov (.tmp 1)⟩,
      ⟨(some 11), none, .bin .eql (.tmp 10) (.const (.int .i64 10))⟩] [0, 1, 11])
  (.cond (.tmp 11)
    (.seq (.seq (.ops [⟨(some 12), none, .mov (.tmp 0)⟩,
        ⟨(some 13), none, .bin .leq (.const (.int .i64 0)) (.tmp 12)⟩,
        ⟨(some 14), none, .mov (.tmp 13)⟩,
        ⟨(some 15), (some (14, true)), .mov (.tmp 0)⟩,
        ⟨(some 16), (some (14, true)), .bin .lss (.tmp 15) (.const (.int .i64 100))⟩,
        ⟨(some 17), none, .pick (.tmp 14) (.tmp 16) (.const (.bool false))⟩] [0, 17])
    (.cond (.tmp 17)
      (.seq (.ops [⟨(some 18), none, .mov (.tmp 0)⟩,
          ⟨(some 19), none, .callF 76 [(.tmp 18)]⟩,
          ⟨(some 4), none, .mov (.tmp 19)⟩] [4])
      (.ret))
      (.skip)))
    (.seq (.ops [⟨(some 5), none, .alloc 104 [(24, (.int .u8 0))]⟩] [0, 5])
    (.seq (.ops [⟨(some 20), none, .mov (.tmp 0)⟩,
        ⟨(some 21), none, .convI .u64 (.tmp 20)⟩,
        ⟨(some 6), none, .mov (.tmp 21)⟩] [0, 5, 6])
    (.seq (.seq (.ops [⟨(some 22), none, .mov (.tmp 0)⟩,
        ⟨(some 23), none, .bin .lss (.tmp 22) (.const (.int .i64 0))⟩] [0, 5, 6, 23])
    (.cond (.tmp 23)
      (.ops [⟨(some 24), none, .mov (.tmp 6)⟩,
          ⟨(some 25), none, .un .neg (.tmp 24)⟩,
          ⟨(some 6), none, .mov (.tmp 25)⟩] [0, 5, 6])
      (.skip)))
    (.seq (.ops [⟨(some 26), none, .mov (.tmp 6)⟩,
        ⟨(some 27), none, .callF 77 [(.tmp 26)]⟩,
        ⟨(some 7), none, .mov (.tmp 27)⟩] [0, 5, 6, 7])
    (.seq (.ops [⟨(some 28), none, .mov (.tmp 7)⟩,
        ⟨(some 29), none, .bin .add (.const (.int .i64 1)) (.tmp 28)⟩,
        ⟨(some 30), none, .slcA 24 1 (.tmp 5) (some (.const (.int .i64 1))) (some (.tmp 29))⟩,
        ⟨(some 31), none, .mov (.tmp 6)⟩,
        ⟨(some 32), none, .callF 78 [(.tmp 30), (.tmp 31)]⟩] [0, 5, 7])
    (.seq (.seq (.ops [⟨(some 33), none, .mov (.tmp 0)⟩,
        ⟨(some 34), none, .bin .lss (.tmp 33) (.const (.int .i64 0))⟩] [5, 7, 34])
    (.cond (.tmp 34)
      (.seq (.ops [⟨(some 35), none, .idxA 24 1 (.tmp 5) (.const (.int .i64 0))⟩,
          ⟨none, none, .store 1 (.tmp 35) (.const (.int .u8 45))⟩] [5, 7])
      (.seq (.ops [⟨(some 36), none, .mov (.tmp 7)⟩,
          ⟨(some 37), none, .bin .add (.const (.int .i64 1)) (.tmp 36)⟩,
          ⟨(some 38), none, .slcA 24 1 (.tmp 5) none (some (.tmp 37))⟩,
          ⟨(some 39), none, .b2s (.tmp 38)⟩,
          ⟨(some 4), none, .mov (.tmp 39)⟩] [4])
      (.ret)))
      (.skip)))
    (.seq (.ops [⟨(some 40), none, .mov (.tmp 7)⟩,
        ⟨(some 41), none, .bin .add (.const (.int .i64 1)) (.tmp 40)⟩,
        ⟨(some 42), none, .slcA 24 1 (.tmp 5) (some (.const (.int .i64 1))) (some (.tmp 41))⟩,
        ⟨(some 43), none, .b2s (.tmp 42)⟩,
        ⟨(some 4), none, .mov (.tmp 43)⟩] [4])
    (.ret)))))))))
    (.skip)))
  (.seq (.ops [⟨(some 45), none, .mov (.tmp 0)⟩,
      ⟨(some 46), none, .convI .u64 (.tmp 45)⟩,
      ⟨(some 47), none, .mov (.tmp 1)⟩,
      ⟨(some 48), none, .mov (.tmp 0)⟩,
      ⟨(some 49), none, .bin .lss (.tmp 48) (.const (.int .i64 0))⟩,
      ⟨(some 50), none, .callF 79 [(.const (.slice none 0 0)), (.tmp 46), (.tmp 47), (.tmp 49), (.const (.bool false))]⟩,
      ⟨(some 44), none, .mov (.tmp 50)⟩,
      ⟨(some 51), none, .ext (.tmp 44) 0⟩,
      ⟨(some 52), none, .ext (.tmp 44) 1⟩,
      ⟨(some 8), none, .mov (.tmp 51)⟩,
      ⟨(some 9), none, .mov (.tmp 52)⟩] [9])
  (.seq (.ops [⟨(some 53), none, .mov (.tmp 9)⟩,
      ⟨(some 4), none, .mov (.tmp 53)⟩] [4])
  (.ret)))),
  54, [(4, none)], true⟩
theorem ok65 : FunOK Tryd.prog 65 c65 := ⟨⟨Tryd.f65, _, c65.code, Tryd.func65, rfl, by kernel_rfl, rfl, by kernel_rfl, by kernel_rfl⟩⟩
/- strings.Count -/
def c67l0 : AC :=
  .block 1
        (.seq (.ops [⟨(some 20), none, .mov (.tmp 0)⟩,
            ⟨(some 21), none, .mov (.tmp 1)⟩,
            ⟨(some 22), none, .callF 68 [(.tmp 20), (.tmp 21)]⟩,
            ⟨(some 6), none, .mov (.tmp 22)⟩] [0, 1, 5, 6])
        (.seq (.seq (.ops [⟨(some 23), none, .mov (.tmp 6)⟩,
            ⟨(some 24), none, .bin .eql (.tmp 23) (.const (.int .i64 (-1)))⟩] [0, 1, 5, 6, 24])
        (.cond (.tmp 24)
          (.seq (.ops [⟨(some 25), none, .mov (.tmp 5)⟩,
              ⟨(some 4), none, .mov (.tmp 25)⟩] [4])
          (.ret))
          (.skip)))
        (.seq (.ops [⟨(some 26), none, .mov (.tmp 5)⟩,
            ⟨(some 27), none, .bin .add (.tmp 26) (.const (.int .i64 1))⟩,
            ⟨(some 5), none, .mov (.tmp 27)⟩] [0, 1, 5, 6])
        (.ops [⟨(some 28), none, .mov (.tmp 0)⟩,
            ⟨(some 29), none, .mov (.tmp 6)⟩,
            ⟨(some 30), none, .mov (.tmp 1)⟩,
            ⟨(some 31), none, .len true (.tmp 30)⟩,
            ⟨(some 32), none, .bin .add (.tmp 29) (.tmp 31)⟩,
            ⟨(some 33), none, .slcS (.tmp 28) (some (.tmp 32)) none⟩,
            ⟨(some 0), none, .mov (.tmp 33)⟩] [0, 1, 5]))))
def c67 : AFun := ⟨
  .seq (.ops [⟨(some 4), none, .mov (.const (.int .i64 0))⟩] [0, 1])
  (.seq (.seq (.ops [⟨(some 7), none, .mov (.tmp 1)⟩,
      ⟨(some 8), none, .len true (.tmp 7)⟩,
      ⟨(some 9), none, .bin .eql (.tmp 8) (.const (.int .i64 0))⟩] [0, 1, 9])
  (.cond (.tmp 9)
    (.seq (.ops [⟨(some 10), none, .mov (.tmp 0)⟩,
        ⟨(some 11), none, .callF 80 [(.tmp 10)]⟩,
        ⟨(some 12), none, .bin .add (.tmp 11) (.const (.int .i64 1))⟩,
        ⟨(some 4), none, .mov (.tmp 12)⟩] [4])
    (.ret))
    (.skip)))
  (.seq (.seq (.ops [⟨(some 13), none, .mov (.tmp 1)⟩,
      ⟨(some 14), none, .len true (.tmp 13)⟩,
      ⟨(some 15), none, .bin .eql (.tmp 14) (.const (.int .i64 1))⟩] [0, 1, 15])
  (.cond (.tmp 15)
    (.seq (.ops [⟨(some 16), none, .mov (.tmp 0)⟩,
        ⟨(some 17), none, .mov (.tmp 1)⟩,
        ⟨(some 18), none, .idxStr (.tmp 17) (.const (.int .i64 0))⟩,
        ⟨(some 19), none, .callF 82 [(.tmp 16), (.tmp 18)]⟩,
        ⟨(some 4), none, .mov (.tmp 19)⟩] [4])
    (.ret))
    (.skip)))
  (.seq (.ops [⟨(some 5), none, .mov (.const (.int .i64 0))⟩] [0, 1, 5])
  (.block 0
    (.loop [0, 1, 5]
      c67l0))))),
  34, [(4, none)], true⟩
theorem ok67 : FunOK Tryd.prog 67 c67 := ⟨⟨Tryd.f67, _, c67.code, Tryd.func67, rfl, by kernel_rfl, rfl, by kernel_rfl, by kernel_rfl⟩⟩
/- strings.Index -/
def c68 : AFun := ⟨
  .seq (.ops [⟨(some 4), none, .mov (.const (.int .i64 0))⟩] [0, 1])
  (.seq (.ops [⟨(some 5), none, .mov (.tmp 0)⟩,
      ⟨(some 6), none, .mov (.tmp 1)⟩,
      ⟨(some 7), none, .callF 83 [(.tmp 5), (.tmp 6)]⟩,
      ⟨(some 4), none, .mov (.tmp 7)⟩] [4])
  (.ret)),
  8, [(4, none)], true⟩
theorem ok68 : FunOK Tryd.prog 68 c68 := ⟨⟨Tryd.f68, _, c68.code, Tryd.func68, rfl, by kernel_rfl, rfl, by kernel_rfl, by kernel_rfl⟩⟩
/- internal/stringslite.HasSuffix -/
def c69 : AFun := ⟨
  .seq (.ops [⟨(some 4), none, .mov (.const (.bool false))⟩] [0, 1])
  (.seq (.ops [⟨(some 5), none, .mov (.tmp 0)⟩,
      ⟨(some 6), none, .len true (.tmp 5)⟩,
      ⟨(some 7), none, .mov (.tmp 1)⟩,
      ⟨(some 8), none, .len true (.tmp 7)⟩,
      ⟨(some 9), none, .bin .geq (.tmp 6) (.tmp 8)⟩,
      ⟨(some 10), none, .mov (.tmp 9)⟩,
      ⟨(some 11), (some (10, true)), .mov (.tmp 0)⟩,
      ⟨(some 12), (some (10, true)), .mov (.tmp 0)⟩,
      ⟨(some 13), (some (10, true)), .len true (.tmp 12)⟩,
      ⟨(some 14), (some (10, true)), .mov (.tmp 1)⟩,
      ⟨(some 15), (some (10, true)), .len true (.tmp 14)⟩,
      ⟨(some 16), (some (10, true)), .bin .sub (.tmp 13) (.tmp 15)⟩,
      ⟨(some 17), (some (10, true)), .slcS (.tmp 11) (some (.tmp 16)) none⟩,
      ⟨(some 18), (some (10, true)), .mov (.tmp 1)⟩,
      ⟨(some 19), (some (10, true)), .bin .eql (.tmp 17) (.tmp 18)⟩,
      ⟨(some 20), none, .pick (.tmp 10) (.tmp 19) (.const (.bool false))⟩,
      ⟨(some 4), none, .mov (.tmp 20)⟩] [4])
  (.ret)),
  21, [(4, none)], true⟩
theorem ok69 : FunOK Tryd.prog 69 c69 := ⟨⟨Tryd.f69, _, c69.code, Tryd.func69, rfl, by kernel_rfl, rfl, by kernel_rfl, by kernel_rfl⟩⟩
/- internal/strconv.ParseInt -/
def c70 : AFun := ⟨
  .seq (.ops [⟨(some 6), none, .mov (.const (.int .i64 0))⟩,
      ⟨(some 7), none, .mov (.const .nilIface)⟩] [0, 1, 2])
  (.seq (.seq (.ops [⟨(some 12), none, .mov (.tmp 0)⟩,
      ⟨(some 13), none, .bin .eql (.tmp 12) (.const (.string ⟨#[]⟩))⟩] [0, 1, 2, 13])
  (.cond (.tmp 13)
    (.seq (.ops [⟨(some 14), none, .mkIf 97 (.const (.int .i64 2))⟩,
        ⟨(some 6), none, .mov (.const (.int .i64 0))⟩,
        ⟨(some 7), none, .mov (.tmp 14)⟩] [6, 7])
    (.ret))
    (.skip)))
  (.seq (.ops [⟨(some 8), none, .mov (.const (.bool false))⟩] [0, 1, 2, 8])
  (.seq (.seq (.ops [⟨(some 15), none, .mov (.tmp 0)⟩,
      ⟨(some 16), none, .idxStr (.tmp 15) (.const (.int .i64 0))⟩] [0, 1, 2, 8, 16])
  (.block 0
    (.seq (.ops [⟨(some 18), none, .bin .eql (.tmp 16) (.const (.int .u8 43))⟩,
        ⟨(some 17), none, .mov (.tmp 18)⟩] [0, 1, 2, 8, 16, 17])
    (.cond (.tmp 17)
      (.ops [⟨(some 19), none, .mov (.tmp 0)⟩,
          ⟨(some 20), none, .slcS (.tmp 19) (some (.const (.int .i64 1))) none⟩,
          ⟨(some 0), none, .mov (.tmp 20)⟩] [0, 1, 2, 8])
      (.seq (.ops [⟨(some 22), none, .bin .eql (.tmp 16) (.const (.int .u8 45))⟩,
          ⟨(some 21), none, .mov (.tmp 22)⟩] [0, 1, 2, 8, 21])
      (.cond (.tmp 21)
        (.seq (.ops [⟨(some 23), none, .mov (.tmp 0)⟩,
            ⟨(some 24), none, .slcS (.tmp 23) (some (.const (.int .i64 1))) none⟩,
            ⟨(some 0), none, .mov (.tmp 24)⟩] [0, 1, 2])
        (.ops [⟨(some 8), none, .mov (.const (.bool true))⟩] [0, 1, 2, 8]))
        (.skip)))))))
  (.seq (.ops [⟨(some 9), none, .mov (.const (.int .u64 0))⟩] [0, 1, 2, 8])
  (.seq (.ops [⟨(some 26), none, .mov (.tmp 0)⟩,
      ⟨(some 27), none, .mov (.tmp 1)⟩,
      ⟨(some 28), none, .mov (.tmp 2)⟩,
      ⟨(some 29), none, .callF 84 [(.tmp 26), (.tmp 27), (.tmp 28)]⟩,
      ⟨(some 25), none, .mov (.tmp 29)⟩,
      ⟨(some 30), none, .ext (.tmp 25) 0⟩,
      ⟨(some 31), none, .ext (.tmp 25) 1⟩,
      ⟨(some 9), none, .mov (.tmp 30)⟩,
      ⟨(some 7), none, .mov (.tmp 31)⟩] [2, 7, 8, 9])
  (.seq (.seq (.ops [⟨(some 32), none, .mov (.tmp 7)⟩,
      ⟨(some 33), none, .eqIf true true [2, 3, 5, 6, 12, 21, 27, 97, 105, 116, 124, 146, 147, 149, 150] (.tmp 32) (.const .nilIface)⟩,
      ⟨(some 34), none, .mov (.tmp 33)⟩,
      ⟨(some 35), (some (34, true)), .mov (.tmp 7)⟩,
      ⟨(some 36), (some (34, true)), .mkIf 97 (.const (.int .i64 1))⟩,
      ⟨(some 37), (some (34, true)), .eqIf true false [2, 3, 5, 6, 12, 21, 27, 97, 105, 116, 124, 146, 147, 149, 150] (.tmp 35) (.tmp 36)⟩,
      ⟨(some 38), none, .pick (.tmp 34) (.tmp 37) (.const (.bool false))⟩] [2, 7, 8, 9, 38])
  (.cond (.tmp 38)
    (.seq (.ops [⟨(some 39), none, .mov (.tmp 7)⟩,
        ⟨(some 6), none, .mov (.const (.int .i64 0))⟩,
        ⟨(some 7), none, .mov (.tmp 39)⟩] [6, 7])
    (.ret))
    (.skip)))
  (.seq (.seq (.ops [⟨(some 40), none, .mov (.tmp 2)⟩,
      ⟨(some 41), none, .bin .eql (.tmp 40) (.const (.int .i64 0))⟩] [2, 8, 9, 41])
  (.cond (.tmp 41)
    (.ops [⟨(some 2), none, .mov (.const (.int .i64 64))⟩] [2, 8, 9])
    (.skip)))
  (.seq (.ops [⟨(some 42), none, .mov (.tmp 2)⟩,
      ⟨(some 43), none, .bin .sub (.tmp 42) (.const (.int .i64 1))⟩,
      ⟨(some 44), none, .convI .u64 (.tmp 43)⟩,
      ⟨(some 45), none, .bin .shl (.const (.int .u64 1)) (.tmp 44)⟩,
      ⟨(some 10), none, .mov (.tmp 45)⟩] [8, 9, 10])
  (.seq (.seq (.ops [⟨(some 46), none, .mov (.tmp 8)⟩,
      ⟨(some 47), none, .un .not (.tmp 46)⟩,
      ⟨(some 48), none, .mov (.tmp 47)⟩,
      ⟨(some 49), (some (48, true)), .mov (.tmp 9)⟩,
      ⟨(some 50), (some (48, true)), .mov (.tmp 10)⟩,
      ⟨(some 51), (some (48, true)), .bin .geq (.tmp 49) (.tmp 50)⟩,
      ⟨(some 52), none, .pick (.tmp 48) (.tmp 51) (.const (.bool false))⟩] [8, 9, 10, 52])
  (.cond (.tmp 52)
    (.seq (.ops [⟨(some 53), none, .mov (.tmp 10)⟩,
        ⟨(some 54), none, .bin .sub (.tmp 53) (.const (.int .u64 1))⟩,
        ⟨(some 55), none, .convI .i64 (.tmp 54)⟩,
        ⟨(some 56), none, .mkIf 97 (.const (.int .i64 1))⟩,
        ⟨(some 6), none, .mov (.tmp 55)⟩,
        ⟨(some 7), none, .mov (.tmp 56)⟩] [6, 7])
    (.ret))
    (.skip)))
  (.seq (.seq (.ops [⟨(some 57), none, .mov (.tmp 8)⟩,
      ⟨(some 58), none, .mov (.tmp 57)⟩,
      ⟨(some 59), (some (58, true)), .mov (.tmp 9)⟩,
      ⟨(some 60), (some (58, true)), .mov (.tmp 10)⟩,
      ⟨(some 61), (some (58, true)), .bin .gtr (.tmp 59) (.tmp 60)⟩,
      ⟨(some 62), none, .pick (.tmp 58) (.tmp 61) (.const (.bool false))⟩] [8, 9, 10, 62])
  (.cond (.tmp 62)
    (.seq (.ops [⟨(some 63), none, .mov (.tmp 10)⟩,
        ⟨(some 64), none, .convI .i64 (.tmp 63)⟩,
        ⟨(some 65), none, .un .neg (.tmp 64)⟩,
        ⟨(some 66), none, .mkIf 97 (.const (.int .i64 1))⟩,
        ⟨(some 6), none, .mov (.tmp 65)⟩,
        ⟨(some 7), none, .mov (.tmp 66)⟩] [6, 7])
    (.ret))
    (.skip)))
  (.seq (.ops [⟨(some 67), none, .mov (.tmp 9)⟩,
      ⟨(some 68), none, .convI .i64 (.tmp 67)⟩,
      ⟨(some 11), none, .mov (.tmp 68)⟩] [8, 11])
  (.seq (.seq (.ops [⟨(some 69), none, .mov (.tmp 8)⟩] [11, 69])
  (.cond (.tmp 69)
    (.ops [⟨(some 70), none, .mov (.tmp 11)⟩,
        ⟨(some 71), none, .un .neg (.tmp 70)⟩,
        ⟨(some 11), none, .mov (.tmp 71)⟩] [11])
    (.skip)))
  (.seq (.ops [⟨(some 72), none, .mov (.tmp 11)⟩,
      ⟨(some 6), none, .mov (.tmp 72)⟩,
      ⟨(some 7), none, .mov (.const .nilIface)⟩] [6, 7])
  (.ret)))))))))))))),
  73, [(6, none), (7, none)], true⟩
theorem ok70 : FunOK Tryd.prog 70 c70 := ⟨⟨Tryd.f70, _, c70.code, Tryd.func70, rfl, by kernel_rfl, rfl, by kernel_rfl, by kernel_rfl⟩⟩
/- strconv.syntaxError -/
def c71 : AFun := ⟨
  .seq (.ops [⟨(some 4), none, .mov (.const (.pointer none))⟩] [0, 1])
  (.seq (.draw [⟨(some 5), none, .mov (.tmp 0)⟩,
      ⟨(some 6), none, .mov (.tmp 1)⟩,
      ⟨(some 7), none, .callF 85 [(.tmp 6)]⟩,
      ⟨(some 8), none, .load none (.global 0)⟩] [⟨(some 9), none, .build [(.string ⟨#[]⟩), (.string ⟨#[]⟩), .nilIface] [(0, 1, (.tmp 5)), (1, 1, (.tmp 7)), (2, 1, (.tmp 8))]⟩,
      ⟨(some 10), none, .box 119 (.tmp 9)⟩,
      ⟨(some 4), none, .mov (.tmp 10)⟩] [[], [], [], [false, false, false]] [4])
  (.ret)),
  11, [(4, none)], true⟩
theorem ok71 : FunOK Tryd.prog 71 c71 := ⟨⟨Tryd.f71, _, c71.code, Tryd.func71, rfl, by kernel_rfl, rfl, by kernel_rfl, by kernel_rfl⟩⟩
/- strconv.rangeError -/
def c72 : AFun := ⟨
  .seq (.ops [⟨(some 4), none, .mov (.const (.pointer none))⟩] [0, 1])
  (.seq (.draw [⟨(some 5), none, .mov (.tmp 0)⟩,
      ⟨(some 6), none, .mov (.tmp 1)⟩,
      ⟨(some 7), none, .callF 85 [(.tmp 6)]⟩,
      ⟨(some 8), none, .load none (.global 1)⟩] [⟨(some 9), none, .build [(.string ⟨#[]⟩), (.string ⟨#[]⟩), .nilIface] [(0, 1, (.tmp 5)), (1, 1, (.tmp 7)), (2, 1, (.tmp 8))]⟩,
      ⟨(some 10), none, .box 119 (.tmp 9)⟩,
      ⟨(some 4), none, .mov (.tmp 10)⟩] [[], [], [], [false, false, false]] [4])
  (.ret)),
  11, [(4, none)], true⟩
theorem ok72 : FunOK Tryd.prog 72 c72 := ⟨⟨Tryd.f72, _, c72.code, Tryd.func72, rfl, by kernel_rfl, rfl, by kernel_rfl, by kernel_rfl⟩⟩
/- internal/strconv.small -/
def c76 : AFun := ⟨
  .seq (.ops [⟨(some 2), none, .mov (.const (.string ⟨#[]⟩))⟩] [0])
  (.seq (.seq (.ops [⟨(some 3), none, .mov (.tmp 0)⟩,
      ⟨(some 4), none, .bin .lss (.tmp 3) (.const (.int .i64 10))⟩] [0, 4])
  (.cond (.tmp 4)
    (.seq (.ops [⟨(some 5), none, .mov (.tmp 0)⟩,
        ⟨(some 6), none, .mov (.tmp 0)⟩,
        ⟨(some 7), none, .bin .add (.tmp 6) (.const (.int .i64 1))⟩,
        ⟨(some 8), none, .slcS (.const (.string ⟨#[48, 49, 50, 51, 52, 53, 54, 55, 56, 57, 97, 98, 99, 100, 101, 102, 103, 104, 105, 106, 107, 108, 109, 110, 111, 112, 113, 114, 115, 116, 117, 118, 119, 120, 121, 122]⟩)) (some (.tmp 5)) (some (.tmp 7))⟩,
        ⟨(some 2), none, .mov (.tmp 8)⟩] [2])
    (.ret))
    (.skip)))
  (.seq (.ops [⟨(some 9), none, .mov (.tmp 0)⟩,
      ⟨(some 10), none, .bin .mul (.tmp 9) (.const (.int .i64 2))⟩,
      ⟨(some 11), none, .mov (.tmp 0)⟩,
      ⟨(some 12), none, .bin .mul (.tmp 11) (.const (.int .i64 2))⟩,
      ⟨(some 13), none, .bin .add (.tmp 12) (.const (.int .i64 2))⟩,
      ⟨(some 14), none, .slcS (.const (.string ⟨#[48, 48, 48, 49, 48, 50, 48, 51, 48, 52, 48, 53, 48, 54, 48, 55, 48, 56, 48, 57, 49, 48, 49, 49, 49, 50, 49, 51, 49, 52, 49, 53, 49, 54, 49, 55, 49, 56, 49, 57, 50, 48, 50, 49, 50, 50, 50, 51, 50, 52, 50, 53, 50, 54, 50, 55, 50, 56, 50, 57, 51, 48, 51, 49, 51, 50, 51, 51, 51, 52, 51, 53, 51, 54, 51, 55, 51, 56, 51, 57, 52, 48, 52, 49, 52, 50, 52, 51, 52, 52, 52, 53, 52, 54, 52, 55, 52, 56, 52, 57, 53, 48, 53, 49, 53, 50, 53, 51, 53, 52, 53, 53, 53, 54, 53, 55, 53, 56, 53, 57, 54, 48, 54, 49, 54, 50, 54, 51, 54, 52, 54, 53, 54, 54, 54, 55, 54, 56, 54, 57, 55, 48, 55, 49, 55, 50, 55, 51, 55, 52, 55, 53, 55, 54, 55, 55, 55, 56, 55, 57, 56, 48, 56, 49, 56, 50, 56, 51, 56, 52, 56, 53, 56, 54, 56, 55, 56, 56, 56, 57, 57, 48, 57, 49, 57, 50, 57, 51, 57, 52, 57, 53, 57, 54, 57, 55, 57, 56, 57, 57]⟩)) (some (.tmp 10)) (some (.tmp 13))⟩,
      ⟨(some 2), none, .mov (.tmp 14)⟩] [2])
  (.ret))),
  15, [(2, none)], true⟩
theorem ok76 : FunOK Tryd.prog 76 c76 := ⟨⟨Tryd.f76, _, c76.code, Tryd.func76, rfl, by kernel_rfl, rfl, by kernel_rfl, by kernel_rfl⟩⟩
/- internal/strconv.numDigits -/
def c77 : AFun := ⟨
  .seq (.ops [⟨(some 2), none, .mov (.const (.int .i64 0))⟩] [0])
  (.seq (.ops [⟨(some 4), none, .mov (.tmp 0)⟩,
      ⟨(some 5), none, .callF 88 [(.tmp 4)]⟩,
      ⟨(some 6), none, .callF 87 [(.tmp 5)]⟩,
      ⟨(some 3), none, .mov (.tmp 6)⟩] [0, 3])
  (.seq (.ops [⟨(some 7), none, .mov (.tmp 3)⟩,
      ⟨(some 8), none, .mov (.tmp 0)⟩,
      ⟨(some 9), none, .mov (.tmp 3)⟩,
      ⟨(some 10), none, .idxA 20 1 (.global 3) (.tmp 9)⟩,
      ⟨(some 11), none, .load none (.tmp 10)⟩,
      ⟨(some 12), none, .bin .geq (.tmp 8) (.tmp 11)⟩,
      ⟨(some 13), none, .callF 89 [(.tmp 12)]⟩,
      ⟨(some 14), none, .bin .add (.tmp 7) (.tmp 13)⟩,
      ⟨(some 2), none, .mov (.tmp 14)⟩] [2])
  (.ret))),
  15, [(2, none)], true⟩
theorem ok77 : FunOK Tryd.prog 77 c77 := ⟨⟨Tryd.f77, _, c77.code, Tryd.func77, rfl, by kernel_rfl, rfl, by kernel_rfl, by kernel_rfl⟩⟩
/- internal/strconv.formatBase10 -/
def c78l0 : AC :=
  .seq (.seq (.ops [⟨(some 19), none, .mov (.tmp 4)⟩,
          ⟨(some 20), none, .bin .geq (.tmp 19) (.const (.int .i64 8))⟩] [0, 1, 4, 20])
      (.cond (.tmp 20)
        (.skip)
        (.exit 0)))
      (.block 1
        (.seq (.ops [⟨(some 21), none, .mov (.tmp 1)⟩,
            ⟨(some 22), none, .bin .rem (.tmp 21) (.const (.int .u64 100000000))⟩,
            ⟨(some 23), none, .convI .u32 (.tmp 22)⟩,
            ⟨(some 5), none, .mov (.tmp 23)⟩] [0, 1, 4, 5])
        (.seq (.ops [⟨(some 24), none, .mov (.tmp 1)⟩,
            ⟨(some 25), none, .bin .quo (.tmp 24) (.const (.int .u64 100000000))⟩,
            ⟨(some 1), none, .mov (.tmp 25)⟩] [0, 1, 4, 5])
        (.seq (.ops [⟨(some 26), none, .mov (.tmp 5)⟩,
            ⟨(some 27), none, .bin .quo (.tmp 26) (.const (.int .u32 10000))⟩,
            ⟨(some 28), none, .mov (.tmp 5)⟩,
            ⟨(some 29), none, .bin .rem (.tmp 28) (.const (.int .u32 10000))⟩,
            ⟨(some 6), none, .mov (.tmp 27)⟩,
            ⟨(some 7), none, .mov (.tmp 29)⟩] [0, 1, 4, 6, 7])
        (.seq (.ops [⟨(some 30), none, .mov (.tmp 7)⟩,
            ⟨(some 31), none, .bin .quo (.tmp 30) (.const (.int .u32 100))⟩,
            ⟨(some 32), none, .bin .mul (.tmp 31) (.const (.int .u32 2))⟩,
            ⟨(some 33), none, .mov (.tmp 7)⟩,
            ⟨(some 34), none, .bin .rem (.tmp 33) (.const (.int .u32 100))⟩,
            ⟨(some 35), none, .bin .mul (.tmp 34) (.const (.int .u32 2))⟩,
            ⟨(some 8), none, .mov (.tmp 32)⟩,
            ⟨(some 9), none, .mov (.tmp 35)⟩] [0, 1, 4, 6, 8, 9])
        (.seq (.ops [⟨(some 36), none, .mov (.tmp 6)⟩,
            ⟨(some 37), none, .bin .quo (.tmp 36) (.const (.int .u32 100))⟩,
            ⟨(some 38), none, .bin .mul (.tmp 37) (.const (.int .u32 2))⟩,
            ⟨(some 39), none, .mov (.tmp 6)⟩,
            ⟨(some 40), none, .bin .rem (.tmp 39) (.const (.int .u32 100))⟩,
            ⟨(some 41), none, .bin .mul (.tmp 40) (.const (.int .u32 2))⟩,
            ⟨(some 10), none, .mov (.tmp 38)⟩,
            ⟨(some 11), none, .mov (.tmp 41)⟩] [0, 1, 4, 8, 9, 10, 11])
        (.seq (.drawW [⟨⟨(some 42), none, .mov (.tmp 0)⟩, [], none⟩,
            ⟨⟨(some 43), none, .mov (.tmp 4)⟩, [0], none⟩,
            ⟨⟨(some 44), none, .bin .sub (.tmp 43) (.const (.int .i64 1))⟩, [0], none⟩,
            ⟨⟨(some 45), none, .mov (.tmp 0)⟩, [0, 1, 2], none⟩,
            ⟨⟨(some 46), none, .mov (.tmp 4)⟩, [0, 1, 2, 3], none⟩,
            ⟨⟨(some 47), none, .bin .sub (.tmp 46) (.const (.int .i64 2))⟩, [0, 1, 2, 3], none⟩,
            ⟨⟨(some 48), none, .mov (.tmp 9)⟩, [0, 1, 2, 3, 4, 5], none⟩,
            ⟨⟨(some 49), none, .bin .add (.tmp 48) (.const (.int .u32 1))⟩, [0, 1, 2, 3, 4, 5], none⟩,
            ⟨⟨(some 50), none, .idxStr (.const (.string ⟨#[48, 48, 48, 49, 48, 50, 48, 51, 48, 52, 48, 53, 48, 54, 48, 55, 48, 56, 48, 57, 49, 48, 49, 49, 49, 50, 49, 51, 49, 52, 49, 53, 49, 54, 49, 55, 49, 56, 49, 57, 50, 48, 50, 49, 50, 50, 50, 51, 50, 52, 50, 53, 50, 54, 50, 55, 50, 56, 50, 57, 51, 48, 51, 49, 51, 50, 51, 51, 51, 52, 51, 53, 51, 54, 51, 55, 51, 56, 51, 57, 52, 48, 52, 49, 52, 50, 52, 51, 52, 52, 52, 53, 52, 54, 52, 55, 52, 56, 52, 57, 53, 48, 53, 49, 53, 50, 53, 51, 53, 52, 53, 53, 53, 54, 53, 55, 53, 56, 53, 57, 54, 48, 54, 49, 54, 50, 54, 51, 54, 52, 54, 53, 54, 54, 54, 55, 54, 56, 54, 57, 55, 48, 55, 49, 55, 50, 55, 51, 55, 52, 55, 53, 55, 54, 55, 55, 55, 56, 55, 57, 56, 48, 56, 49, 56, 50, 56, 51, 56, 52, 56, 53, 56, 54, 56, 55, 56, 56, 56, 57, 57, 48, 57, 49, 57, 50, 57, 51, 57, 52, 57, 53, 57, 54, 57, 55, 57, 56, 57, 57]⟩)) (.tmp 49)⟩, [0, 1, 2, 3, 4, 5], none⟩,
            ⟨⟨(some 51), none, .mov (.tmp 9)⟩, [0, 1, 2, 3, 4, 5, 6, 7, 8], none⟩,
            ⟨⟨(some 52), none, .idxStr (.const (.string ⟨#[48, 48, 48, 49, 48, 50, 48, 51, 48, 52, 48, 53, 48, 54, 48, 55, 48, 56, 48, 57, 49, 48, 49, 49, 49, 50, 49, 51, 49, 52, 49, 53, 49, 54, 49, 55, 49, 56, 49, 57, 50, 48, 50, 49, 50, 50, 50, 51, 50, 52, 50, 53, 50, 54, 50, 55, 50, 56, 50, 57, 51, 48, 51, 49, 51, 50, 51, 51, 51, 52, 51, 53, 51, 54, 51, 55, 51, 56, 51, 57, 52, 48, 52, 49, 52, 50, 52, 51, 52, 52, 52, 53, 52, 54, 52, 55, 52, 56, 52, 57, 53, 48, 53, 49, 53, 50, 53, 51, 53, 52, 53, 53, 53, 54, 53, 55, 53, 56, 53, 57, 54, 48, 54, 49, 54, 50, 54, 51, 54, 52, 54, 53, 54, 54, 54, 55, 54, 56, 54, 57, 55, 48, 55, 49, 55, 50, 55, 51, 55, 52, 55, 53, 55, 54, 55, 55, 55, 56, 55, 57, 56, 48, 56, 49, 56, 50, 56, 51, 56, 52, 56, 53, 56, 54, 56, 55, 56, 56, 56, 57, 57, 48, 57, 49, 57, 50, 57, 51, 57, 52, 57, 53, 57, 54, 57, 55, 57, 56, 57, 57]⟩)) (.tmp 51)⟩, [0, 1, 2, 3, 4, 5, 6, 7, 8], none⟩,
            ⟨⟨(some 53), none, .idxS 1 (.tmp 42) (.tmp 44)⟩, [3, 4, 5, 9, 10], none⟩,
            ⟨⟨none, none, .store 1 (.tmp 53) (.tmp 50)⟩, [3, 4, 5, 9, 10], none⟩] [⟨(some 54), none, .idxS 1 (.tmp 45) (.tmp 47)⟩,
            ⟨none, none, .store 1 (.tmp 54) (.tmp 52)⟩] [0, 1, 4, 8, 10, 11])
        (.seq (.drawW [⟨⟨(some 55), none, .mov (.tmp 0)⟩, [], none⟩,
            ⟨⟨(some 56), none, .mov (.tmp 4)⟩, [0], none⟩,
            ⟨⟨(some 57), none, .bin .sub (.tmp 56) (.const (.int .i64 3))⟩, [0], none⟩,
            ⟨⟨(some 58), none, .mov (.tmp 0)⟩, [0, 1, 2], none⟩,
            ⟨⟨(some 59), none, .mov (.tmp 4)⟩, [0, 1, 2, 3], none⟩,
            ⟨⟨(some 60), none, .bin .sub (.tmp 59) (.const (.int .i64 4))⟩, [0, 1, 2, 3], none⟩,
            ⟨⟨(some 61), none, .mov (.tmp 8)⟩, [0, 1, 2, 3, 4, 5], none⟩,
            ⟨⟨(some 62), none, .bin .add (.tmp 61) (.const (.int .u32 1))⟩, [0, 1, 2, 3, 4, 5], none⟩,
            ⟨⟨(some 63), none, .idxStr (.const (.string ⟨#[48, 48, 48, 49, 48, 50, 48, 51, 48, 52, 48, 53, 48, 54, 48, 55, 48, 56, 48, 57, 49, 48, 49, 49, 49, 50, 49, 51, 49, 52, 49, 53, 49, 54, 49, 55, 49, 56, 49, 57, 50, 48, 50, 49, 50, 50, 50, 51, 50, 52, 50, 53, 50, 54, 50, 55, 50, 56, 50, 57, 51, 48, 51, 49, 51, 50, 51, 51, 51, 52, 51, 53, 51, 54, 51, 55, 51, 56, 51, 57, 52, 48, 52, 49, 52, 50, 52, 51, 52, 52, 52, 53, 52, 54, 52, 55, 52, 56, 52, 57, 53, 48, 53, 49, 53, 50, 53, 51, 53, 52, 53, 53, 53, 54, 53, 55, 53, 56, 53, 57, 54, 48, 54, 49, 54, 50, 54, 51, 54, 52, 54, 53, 54, 54, 54, 55, 54, 56, 54, 57, 55, 48, 55, 49, 55, 50, 55, 51, 55, 52, 55, 53, 55, 54, 55, 55, 55, 56, 55, 57, 56, 48, 56, 49, 56, 50, 56, 51, 56, 52, 56, 53, 56, 54, 56, 55, 56, 56, 56, 57, 57, 48, 57, 49, 57, 50, 57, 51, 57, 52, 57, 53, 57, 54, 57, 55, 57, 56, 57, 57]⟩)) (.tmp 62)⟩, [0, 1, 2, 3, 4, 5], none⟩,
            ⟨⟨(some 64), none, .mov (.tmp 8)⟩, [0, 1, 2, 3, 4, 5, 6, 7, 8], none⟩,
            ⟨⟨(some 65), none, .idxStr (.const (.string ⟨#[48, 48, 48, 49, 48, 50, 48, 51, 48, 52, 48, 53, 48, 54, 48, 55, 48, 56, 48, 57, 49, 48, 49, 49, 49, 50, 49, 51, 49, 52, 49, 53, 49, 54, 49, 55, 49, 56, 49, 57, 50, 48, 50, 49, 50, 50, 50, 51, 50, 52, 50, 53, 50, 54, 50, 55, 50, 56, 50, 57, 51, 48, 51, 49, 51, 50, 51, 51, 51, 52, 51, 53, 51, 54, 51, 55, 51, 56, 51, 57, 52, 48, 52, 49, 52, 50, 52, 51, 52, 52, 52, 53, 52, 54, 52, 55, 52, 56, 52, 57, 53, 48, 53, 49, 53, 50, 53, 51, 53, 52, 53, 53, 53, 54, 53, 55, 53, 56, 53, 57, 54, 48, 54, 49, 54, 50, 54, 51, 54, 52, 54, 53, 54, 54, 54, 55, 54, 56, 54, 57, 55, 48, 55, 49, 55, 50, 55, 51, 55, 52, 55, 53, 55, 54, 55, 55, 55, 56, 55, 57, 56, 48, 56, 49, 56, 50, 56, 51, 56, 52, 56, 53, 56, 54, 56, 55, 56, 56, 56, 57, 57, 48, 57, 49, 57, 50, 57, 51, 57, 52, 57, 53, 57, 54, 57, 55, 57, 56, 57, 57]⟩)) (.tmp 64)⟩, [0, 1, 2, 3, 4, 5, 6, 7, 8], none⟩,
            ⟨⟨(some 66), none, .idxS 1 (.tmp 55) (.tmp 57)⟩, [3, 4, 5, 9, 10], none⟩,
            ⟨⟨none, none, .store 1 (.tmp 66) (.tmp 63)⟩, [3, 4, 5, 9, 10], none⟩] [⟨(some 67), none, .idxS 1 (.tmp 58) (.tmp 60)⟩,
            ⟨none, none, .store 1 (.tmp 67) (.tmp 65)⟩] [0, 1, 4, 10, 11])
        (.seq (.drawW [⟨⟨(some 68), none, .mov (.tmp 0)⟩, [], none⟩,
            ⟨⟨(some 69), none, .mov (.tmp 4)⟩, [0], none⟩,
            ⟨⟨(some 70), none, .bin .sub (.tmp 69) (.const (.int .i64 5))⟩, [0], none⟩,
            ⟨⟨(some 71), none, .mov (.tmp 0)⟩, [0, 1, 2], none⟩,
            ⟨⟨(some 72), none, .mov (.tmp 4)⟩, [0, 1, 2, 3], none⟩,
            ⟨⟨(some 73), none, .bin .sub (.tmp 72) (.const (.int .i64 6))⟩, [0, 1, 2, 3], none⟩,
            ⟨⟨(some 74), none, .mov (.tmp 11)⟩, [0, 1, 2, 3, 4, 5], none⟩,
            ⟨⟨(some 75), none, .bin .add (.tmp 74) (.const (.int .u32 1))⟩, [0, 1, 2, 3, 4, 5], none⟩,
            ⟨⟨(some 76), none, .idxStr (.const (.string ⟨#[48, 48, 48, 49, 48, 50, 48, 51, 48, 52, 48, 53, 48, 54, 48, 55, 48, 56, 48, 57, 49, 48, 49, 49, 49, 50, 49, 51, 49, 52, 49, 53, 49, 54, 49, 55, 49, 56, 49, 57, 50, 48, 50, 49, 50, 50, 50, 51, 50, 52, 50, 53, 50, 54, 50, 55, 50, 56, 50, 57, 51, 48, 51, 49, 51, 50, 51, 51, 51, 52, 51, 53, 51, 54, 51, 55, 51, 56, 51, 57, 52, 48, 52, 49, 52, 50, 52, 51, 52, 52, 52, 53, 52, 54, 52, 55, 52, 56, 52, 57, 53, 48, 53, 49, 53, 50, 53, 51, 53, 52, 53, 53, 53, 54, 53, 55, 53, 56, 53, 57, 54, 48, 54, 49, 54, 50, 54, 51, 54, 52, 54, 53, 54, 54, 54, 55, 54, 56, 54, 57, 55, 48, 55, 49, 55, 50, 55, 51, 55, 52, 55, 53, 55, 54, 55, 55, 55, 56, 55, 57, 56, 48, 56, 49, 56, 50, 56, 51, 56, 52, 56, 53, 56, 54, 56, 55, 56, 56, 56, 57, 57, 48, 57, 49, 57, 50, 57, 51, 57, 52, 57, 53, 57, 54, 57, 55, 57, 56, 57, 57]⟩)) (.tmp 75)⟩, [0, 1, 2, 3, 4, 5], none⟩,
            ⟨⟨(some 77), none, .mov (.tmp 11)⟩, [0, 1, 2, 3, 4, 5, 6, 7, 8], none⟩,
            ⟨⟨(some 78), none, .idxStr (.const (.string ⟨#[48, 48, 48, 49, 48, 50, 48, 51, 48, 52, 48, 53, 48, 54, 48, 55, 48, 56, 48, 57, 49, 48, 49, 49, 49, 50, 49, 51, 49, 52, 49, 53, 49, 54, 49, 55, 49, 56, 49, 57, 50, 48, 50, 49, 50, 50, 50, 51, 50, 52, 50, 53, 50, 54, 50, 55, 50, 56, 50, 57, 51, 48, 51, 49, 51, 50, 51, 51, 51, 52, 51, 53, 51, 54, 51, 55, 51, 56, 51, 57, 52, 48, 52, 49, 52, 50, 52, 51, 52, 52, 52, 53, 52, 54, 52, 55, 52, 56, 52, 57, 53, 48, 53, 49, 53, 50, 53, 51, 53, 52, 53, 53, 53, 54, 53, 55, 53, 56, 53, 57, 54, 48, 54, 49, 54, 50, 54, 51, 54, 52, 54, 53, 54, 54, 54, 55, 54, 56, 54, 57, 55, 48, 55, 49, 55, 50, 55, 51, 55, 52, 55, 53, 55, 54, 55, 55, 55, 56, 55, 57, 56, 48, 56, 49, 56, 50, 56, 51, 56, 52, 56, 53, 56, 54, 56, 55, 56, 56, 56, 57, 57, 48, 57, 49, 57, 50, 57, 51, 57, 52, 57, 53, 57, 54, 57, 55, 57, 56, 57, 57]⟩)) (.tmp 77)⟩, [0, 1, 2, 3, 4, 5, 6, 7, 8], none⟩,
            ⟨⟨(some 79), none, .idxS 1 (.tmp 68) (.tmp 70)⟩, [3, 4, 5, 9, 10], none⟩,
            ⟨⟨none, none, .store 1 (.tmp 79) (.tmp 76)⟩, [3, 4, 5, 9, 10], none⟩] [⟨(some 80), none, .idxS 1 (.tmp 71) (.tmp 73)⟩,
            ⟨none, none, .store 1 (.tmp 80) (.tmp 78)⟩] [0, 1, 4, 10])
        (.seq (.drawW [⟨⟨(some 81), none, .mov (.tmp 0)⟩, [], none⟩,
            ⟨⟨(some 82), none, .mov (.tmp 4)⟩, [0], none⟩,
            ⟨⟨(some 83), none, .bin .sub (.tmp 82) (.const (.int .i64 7))⟩, [0], none⟩,
            ⟨⟨(some 84), none, .mov (.tmp 0)⟩, [0, 1, 2], none⟩,
            ⟨⟨(some 85), none, .mov (.tmp 4)⟩, [0, 1, 2, 3], none⟩,
            ⟨⟨(some 86), none, .bin .sub (.tmp 85) (.const (.int .i64 8))⟩, [0, 1, 2, 3], none⟩,
            ⟨⟨(some 87), none, .mov (.tmp 10)⟩, [0, 1, 2, 3, 4, 5], none⟩,
            ⟨⟨(some 88), none, .bin .add (.tmp 87) (.const (.int .u32 1))⟩, [0, 1, 2, 3, 4, 5], none⟩,
            ⟨⟨(some 89), none, .idxStr (.const (.string ⟨#[48, 48, 48, 49, 48, 50, 48, 51, 48, 52, 48, 53, 48, 54, 48, 55, 48, 56, 48, 57, 49, 48, 49, 49, 49, 50, 49, 51, 49, 52, 49, 53, 49, 54, 49, 55, 49, 56, 49, 57, 50, 48, 50, 49, 50, 50, 50, 51, 50, 52, 50, 53, 50, 54, 50, 55, 50, 56, 50, 57, 51, 48, 51, 49, 51, 50, 51, 51, 51, 52, 51, 53, 51, 54, 51, 55, 51, 56, 51, 57, 52, 48, 52, 49, 52, 50, 52, 51, 52, 52, 52, 53, 52, 54, 52, 55, 52, 56, 52, 57, 53, 48, 53, 49, 53, 50, 53, 51, 53, 52, 53, 53, 53, 54, 53, 55, 53, 56, 53, 57, 54, 48, 54, 49, 54, 50, 54, 51, 54, 52, 54, 53, 54, 54, 54, 55, 54, 56, 54, 57, 55, 48, 55, 49, 55, 50, 55, 51, 55, 52, 55, 53, 55, 54, 55, 55, 55, 56, 55, 57, 56, 48, 56, 49, 56, 50, 56, 51, 56, 52, 56, 53, 56, 54, 56, 55, 56, 56, 56, 57, 57, 48, 57, 49, 57, 50, 57, 51, 57, 52, 57, 53, 57, 54, 57, 55, 57, 56, 57, 57]⟩)) (.tmp 88)⟩, [0, 1, 2, 3, 4, 5], none⟩,
            ⟨⟨(some 90), none, .mov (.tmp 10)⟩, [0, 1, 2, 3, 4, 5, 6, 7, 8], none⟩,
            ⟨⟨(some 91), none, .idxStr (.const (.string ⟨#[48, 48, 48, 49, 48, 50, 48, 51, 48, 52, 48, 53, 48, 54, 48, 55, 48, 56, 48, 57, 49, 48, 49, 49, 49, 50, 49, 51, 49, 52, 49, 53, 49, 54, 49, 55, 49, 56, 49, 57, 50, 48, 50, 49, 50, 50, 50, 51, 50, 52, 50, 53, 50, 54, 50, 55, 50, 56, 50, 57, 51, 48, 51, 49, 51, 50, 51, 51, 51, 52, 51, 53, 51, 54, 51, 55, 51, 56, 51, 57, 52, 48, 52, 49, 52, 50, 52, 51, 52, 52, 52, 53, 52, 54, 52, 55, 52, 56, 52, 57, 53, 48, 53, 49, 53, 50, 53, 51, 53, 52, 53, 53, 53, 54, 53, 55, 53, 56, 53, 57, 54, 48, 54, 49, 54, 50, 54, 51, 54, 52, 54, 53, 54, 54, 54, 55, 54, 56, 54, 57, 55, 48, 55, 49, 55, 50, 55, 51, 55, 52, 55, 53, 55, 54, 55, 55, 55, 56, 55, 57, 56, 48, 56, 49, 56, 50, 56, 51, 56, 52, 56, 53, 56, 54, 56, 55, 56, 56, 56, 57, 57, 48, 57, 49, 57, 50, 57, 51, 57, 52, 57, 53, 57, 54, 57, 55, 57, 56, 57, 57]⟩)) (.tmp 90)⟩, [0, 1, 2, 3, 4, 5, 6, 7, 8], none⟩,
            ⟨⟨(some 92), none, .idxS 1 (.tmp 81) (.tmp 83)⟩, [3, 4, 5, 9, 10], none⟩,
            ⟨⟨none, none, .store 1 (.tmp 92) (.tmp 89)⟩, [3, 4, 5, 9, 10], none⟩] [⟨(some 93), none, .idxS 1 (.tmp 84) (.tmp 86)⟩,
            ⟨none, none, .store 1 (.tmp 93) (.tmp 91)⟩] [0, 1, 4])
        (.ops [⟨(some 94), none, .mov (.tmp 4)⟩,
            ⟨(some 95), none, .bin .sub (.tmp 94) (.const (.int .i64 8))⟩,
            ⟨(some 4), none, .mov (.tmp 95)⟩] [0, 1, 4])))))))))))
def c78 : AFun := ⟨
  .seq (.ops [⟨(some 17), none, .mov (.tmp 0)⟩,
      ⟨(some 18), none, .len false (.tmp 17)⟩,
      ⟨(some 4), none, .mov (.tmp 18)⟩] [0, 1, 4])
  (.seq (.block 0
    (.loop [0, 1, 4]
      c78l0))
  (.seq (.ops [⟨(some 96), none, .mov (.tmp 1)⟩,
      ⟨(some 97), none, .convI .u32 (.tmp 96)⟩,
      ⟨(some 12), none, .mov (.tmp 97)⟩] [0, 4, 12])
  (.seq (.seq (.ops [⟨(some 98), none, .mov (.tmp 4)⟩,
      ⟨(some 99), none, .bin .geq (.tmp 98) (.const (.int .i64 4))⟩] [0, 4, 12, 99])
  (.cond (.tmp 99)
    (.seq (.ops [⟨(some 100), none, .mov (.tmp 12)⟩,
        ⟨(some 101), none, .bin .rem (.tmp 100) (.const (.int .u32 10000))⟩,
        ⟨(some 13), none, .mov (.tmp 101)⟩] [0, 4, 12, 13])
    (.seq (.ops [⟨(some 102), none, .mov (.tmp 12)⟩,
        ⟨(some 103), none, .bin .quo (.tmp 102) (.const (.int .u32 10000))⟩,
        ⟨(some 12), none, .mov (.tmp 103)⟩] [0, 4, 12, 13])
    (.seq (.ops [⟨(some 104), none, .mov (.tmp 13)⟩,
        ⟨(some 105), none, .bin .quo (.tmp 104) (.const (.int .u32 100))⟩,
        ⟨(some 106), none, .bin .mul (.tmp 105) (.const (.int .u32 2))⟩,
        ⟨(some 107), none, .mov (.tmp 13)⟩,
        ⟨(some 108), none, .bin .rem (.tmp 107) (.const (.int .u32 100))⟩,
        ⟨(some 109), none, .bin .mul (.tmp 108) (.const (.int .u32 2))⟩,
        ⟨(some 14), none, .mov (.tmp 106)⟩,
        ⟨(some 15), none, .mov (.tmp 109)⟩] [0, 4, 12, 14, 15])
    (.seq (.drawW [⟨⟨(some 110), none, .mov (.tmp 0)⟩, [], none⟩,
        ⟨⟨(some 111), none, .mov (.tmp 4)⟩, [0], none⟩,
        ⟨⟨(some 112), none, .bin .sub (.tmp 111) (.const (.int .i64 1))⟩, [0], none⟩,
        ⟨⟨(some 113), none, .mov (.tmp 0)⟩, [0, 1, 2], none⟩,
        ⟨⟨(some 114), none, .mov (.tmp 4)⟩, [0, 1, 2, 3], none⟩,
        ⟨⟨(some 115), none, .bin .sub (.tmp 114) (.const (.int .i64 2))⟩, [0, 1, 2, 3], none⟩,
        ⟨⟨(some 116), none, .mov (.tmp 15)⟩, [0, 1, 2, 3, 4, 5], none⟩,
        ⟨⟨(some 117), none, .bin .add (.tmp 116) (.const (.int .u32 1))⟩, [0, 1, 2, 3, 4, 5], none⟩,
        ⟨⟨(some 118), none, .idxStr (.const (.string ⟨#[48, 48, 48, 49, 48, 50, 48, 51, 48, 52, 48, 53, 48, 54, 48, 55, 48, 56, 48, 57, 49, 48, 49, 49, 49, 50, 49, 51, 49, 52, 49, 53, 49, 54, 49, 55, 49, 56, 49, 57, 50, 48, 50, 49, 50, 50, 50, 51, 50, 52, 50, 53, 50, 54, 50, 55, 50, 56, 50, 57, 51, 48, 51, 49, 51, 50, 51, 51, 51, 52, 51, 53, 51, 54, 51, 55, 51, 56, 51, 57, 52, 48, 52, 49, 52, 50, 52, 51, 52, 52, 52, 53, 52, 54, 52, 55, 52, 56, 52, 57, 53, 48, 53, 49, 53, 50, 53, 51, 53, 52, 53, 53, 53, 54, 53, 55, 53, 56, 53, 57, 54, 48, 54, 49, 54, 50, 54, 51, 54, 52, 54, 53, 54, 54, 54, 55, 54, 56, 54, 57, 55, 48, 55, 49, 55, 50, 55, 51, 55, 52, 55, 53, 55, 54, 55, 55, 55, 56, 55, 57, 56, 48, 56, 49, 56, 50, 56, 51, 56, 52, 56, 53, 56, 54, 56, 55, 56, 56, 56, 57, 57, 48, 57, 49, 57, 50, 57, 51, 57, 52, 57, 53, 57, 54, 57, 55, 57, 56, 57, 57]⟩)) (.tmp 117)⟩, [0, 1, 2, 3, 4, 5], none⟩,
        ⟨⟨(some 119), none, .mov (.tmp 15)⟩, [0, 1, 2, 3, 4, 5, 6, 7, 8], none⟩,
        ⟨⟨(some 120), none, .idxStr (.const (.string ⟨#[48, 48, 48, 49, 48, 50, 48, 51, 48, 52, 48, 53, 48, 54, 48, 55, 48, 56, 48, 57, 49, 48, 49, 49, 49, 50, 49, 51, 49, 52, 49, 53, 49, 54, 49, 55, 49, 56, 49, 57, 50, 48, 50, 49, 50, 50, 50, 51, 50, 52, 50, 53, 50, 54, 50, 55, 50, 56, 50, 57, 51, 48, 51, 49, 51, 50, 51, 51, 51, 52, 51, 53, 51, 54, 51, 55, 51, 56, 51, 57, 52, 48, 52, 49, 52, 50, 52, 51, 52, 52, 52, 53, 52, 54, 52, 55, 52, 56, 52, 57, 53, 48, 53, 49, 53, 50, 53, 51, 53, 52, 53, 53, 53, 54, 53, 55, 53, 56, 53, 57, 54, 48, 54, 49, 54, 50, 54, 51, 54, 52, 54, 53, 54, 54, 54, 55, 54, 56, 54, 57, 55, 48, 55, 49, 55, 50, 55, 51, 55, 52, 55, 53, 55, 54, 55, 55, 55, 56, 55, 57, 56, 48, 56, 49, 56, 50, 56, 51, 56, 52, 56, 53, 56, 54, 56, 55, 56, 56, 56, 57, 57, 48, 57, 49, 57, 50, 57, 51, 57, 52, 57, 53, 57, 54, 57, 55, 57, 56, 57, 57]⟩)) (.tmp 119)⟩, [0, 1, 2, 3, 4, 5, 6, 7, 8], none⟩,
        ⟨⟨(some 121), none, .idxS 1 (.tmp 110) (.tmp 112)⟩, [3, 4, 5, 9, 10], none⟩,
        ⟨⟨none, none, .store 1 (.tmp 121) (.tmp 118)⟩, [3, 4, 5, 9, 10], none⟩] [⟨(some 122), none, .idxS 1 (.tmp 113) (.tmp 115)⟩,
        ⟨none, none, .store 1 (.tmp 122) (.tmp 120)⟩] [0, 4, 12, 14])
    (.seq (.drawW [⟨⟨(some 123), none, .mov (.tmp 0)⟩, [], none⟩,
        ⟨⟨(some 124), none, .mov (.tmp 4)⟩, [0], none⟩,
        ⟨⟨(some 125), none, .bin .sub (.tmp 124) (.const (.int .i64 3))⟩, [0], none⟩,
        ⟨⟨(some 126), none, .mov (.tmp 0)⟩, [0, 1, 2], none⟩,
        ⟨⟨(some 127), none, .mov (.tmp 4)⟩, [0, 1, 2, 3], none⟩,
        ⟨⟨(some 128), none, .bin .sub (.tmp 127) (.const (.int .i64 4))⟩, [0, 1, 2, 3], none⟩,
        ⟨⟨(some 129), none, .mov (.tmp 14)⟩, [0, 1, 2, 3, 4, 5], none⟩,
        ⟨⟨(some 130), none, .bin .add (.tmp 129) (.const (.int .u32 1))⟩, [0, 1, 2, 3, 4, 5], none⟩,
        ⟨⟨(some 131), none, .idxStr (.const (.string ⟨#[48, 48, 48, 49, 48, 50, 48, 51, 48, 52, 48, 53, 48, 54, 48, 55, 48, 56, 48, 57, 49, 48, 49, 49, 49, 50, 49, 51, 49, 52, 49, 53, 49, 54, 49, 55, 49, 56, 49, 57, 50, 48, 50, 49, 50, 50, 50, 51, 50, 52, 50, 53, 50, 54, 50, 55, 50, 56, 50, 57, 51, 48, 51, 49, 51, 50, 51, 51, 51, 52, 51, 53, 51, 54, 51, 55, 51, 56, 51, 57, 52, 48, 52, 49, 52, 50, 52, 51, 52, 52, 52, 53, 52, 54, 52, 55, 52, 56, 52, 57, 53, 48, 53, 49, 53, 50, 53, 51, 53, 52, 53, 53, 53, 54, 53, 55, 53, 56, 53, 57, 54, 48, 54, 49, 54, 50, 54, 51, 54, 52, 54, 53, 54, 54, 54, 55, 54, 56, 54, 57, 55, 48, 55, 49, 55, 50, 55, 51, 55, 52, 55, 53, 55, 54, 55, 55, 55, 56, 55, 57, 56, 48, 56, 49, 56, 50, 56, 51, 56, 52, 56, 53, 56, 54, 56, 55, 56, 56, 56, 57, 57, 48, 57, 49, 57, 50, 57, 51, 57, 52, 57, 53, 57, 54, 57, 55, 57, 56, 57, 57]⟩)) (.tmp 130)⟩, [0, 1, 2, 3, 4, 5], none⟩,
        ⟨⟨(some 132), none, .mov (.tmp 14)⟩, [0, 1, 2, 3, 4, 5, 6, 7, 8], none⟩,
        ⟨⟨(some 133), none, .idxStr (.const (.string ⟨#[48, 48, 48, 49, 48, 50, 48, 51, 48, 52, 48, 53, 48, 54, 48, 55, 48, 56, 48, 57, 49, 48, 49, 49, 49, 50, 49, 51, 49, 52, 49, 53, 49, 54, 49, 55, 49, 56, 49, 57, 50, 48, 50, 49, 50, 50, 50, 51, 50, 52, 50, 53, 50, 54, 50, 55, 50, 56, 50, 57, 51, 48, 51, 49, 51, 50, 51, 51, 51, 52, 51, 53, 51, 54, 51, 55, 51, 56, 51, 57, 52, 48, 52, 49, 52, 50, 52, 51, 52, 52, 52, 53, 52, 54, 52, 55, 52, 56, 52, 57, 53, 48, 53, 49, 53, 50, 53, 51, 53, 52, 53, 53, 53, 54, 53, 55, 53, 56, 53, 57, 54, 48, 54, 49, 54, 50, 54, 51, 54, 52, 54, 53, 54, 54, 54, 55, 54, 56, 54, 57, 55, 48, 55, 49, 55, 50, 55, 51, 55, 52, 55, 53, 55, 54, 55, 55, 55, 56, 55, 57, 56, 48, 56, 49, 56, 50, 56, 51, 56, 52, 56, 53, 56, 54, 56, 55, 56, 56, 56, 57, 57, 48, 57, 49, 57, 50, 57, 51, 57, 52, 57, 53, 57, 54, 57, 55, 57, 56, 57, 57]⟩)) (.tmp 132)⟩, [0, 1, 2, 3, 4, 5, 6, 7, 8], none⟩,
        ⟨⟨(some 134), none, .idxS 1 (.tmp 123) (.tmp 125)⟩, [3, 4, 5, 9, 10], none⟩,
        ⟨⟨none, none, .store 1 (.tmp 134) (.tmp 131)⟩, [3, 4, 5, 9, 10], none⟩] [⟨(some 135), none, .idxS 1 (.tmp 126) (.tmp 128)⟩,
        ⟨none, none, .store 1 (.tmp 135) (.tmp 133)⟩] [0, 4, 12])
    (.ops [⟨(some 136), none, .mov (.tmp 4)⟩,
        ⟨(some 137), none, .bin .sub (.tmp 136) (.const (.int .i64 4))⟩,
        ⟨(some 4), none, .mov (.tmp 137)⟩] [0, 4, 12]))))))
    (.skip)))
  (.seq (.seq (.ops [⟨(some 138), none, .mov (.tmp 4)⟩,
      ⟨(some 139), none, .bin .geq (.tmp 138) (.const (.int .i64 2))⟩] [0, 4, 12, 139])
  (.cond (.tmp 139)
    (.seq (.ops [⟨(some 140), none, .mov (.tmp 12)⟩,
        ⟨(some 141), none, .bin .rem (.tmp 140) (.const (.int .u32 100))⟩,
        ⟨(some 142), none, .bin .mul (.tmp 141) (.const (.int .u32 2))⟩,
        ⟨(some 16), none, .mov (.tmp 142)⟩] [0, 4, 12, 16])
    (.seq (.ops [⟨(some 143), none, .mov (.tmp 12)⟩,
        ⟨(some 144), none, .bin .quo (.tmp 143) (.const (.int .u32 100))⟩,
        ⟨(some 12), none, .mov (.tmp 144)⟩] [0, 4, 12, 16])
    (.seq (.drawW [⟨⟨(some 145), none, .mov (.tmp 0)⟩, [], none⟩,
        ⟨⟨(some 146), none, .mov (.tmp 4)⟩, [0], none⟩,
        ⟨⟨(some 147), none, .bin .sub (.tmp 146) (.const (.int .i64 1))⟩, [0], none⟩,
        ⟨⟨(some 148), none, .mov (.tmp 0)⟩, [0, 1, 2], none⟩,
        ⟨⟨(some 149), none, .mov (.tmp 4)⟩, [0, 1, 2, 3], none⟩,
        ⟨⟨(some 150), none, .bin .sub (.tmp 149) (.const (.int .i64 2))⟩, [0, 1, 2, 3], none⟩,
        ⟨⟨(some 151), none, .mov (.tmp 16)⟩, [0, 1, 2, 3, 4, 5], none⟩,
        ⟨⟨(some 152), none, .bin .add (.tmp 151) (.const (.int .u32 1))⟩, [0, 1, 2, 3, 4, 5], none⟩,
        ⟨⟨(some 153), none, .idxStr (.const (.string ⟨#[48, 48, 48, 49, 48, 50, 48, 51, 48, 52, 48, 53, 48, 54, 48, 55, 48, 56, 48, 57, 49, 48, 49, 49, 49, 50, 49, 51, 49, 52, 49, 53, 49, 54, 49, 55, 49, 56, 49, 57, 50, 48, 50, 49, 50, 50, 50, 51, 50, 52, 50, 53, 50, 54, 50, 55, 50, 56, 50, 57, 51, 48, 51, 49, 51, 50, 51, 51, 51, 52, 51, 53, 51, 54, 51, 55, 51, 56, 51, 57, 52, 48, 52, 49, 52, 50, 52, 51, 52, 52, 52, 53, 52, 54, 52, 55, 52, 56, 52, 57, 53, 48, 53, 49, 53, 50, 53, 51, 53, 52, 53, 53, 53, 54, 53, 55, 53, 56, 53, 57, 54, 48, 54, 49, 54, 50, 54, 51, 54, 52, 54, 53, 54, 54, 54, 55, 54, 56, 54, 57, 55, 48, 55, 49, 55, 50, 55, 51, 55, 52, 55, 53, 55, 54, 55, 55, 55, 56, 55, 57, 56, 48, 56, 49, 56, 50, 56, 51, 56, 52, 56, 53, 56, 54, 56, 55, 56, 56, 56, 57, 57, 48, 57, 49, 57, 50, 57, 51, 57, 52, 57, 53, 57, 54, 57, 55, 57, 56, 57, 57]⟩)) (.tmp 152)⟩, [0, 1, 2, 3, 4, 5], none⟩,
        ⟨⟨(some 154), none, .mov (.tmp 16)⟩, [0, 1, 2, 3, 4, 5, 6, 7, 8], none⟩,
        ⟨⟨(some 155), none, .idxStr (.const (.string ⟨#[48, 48, 48, 49, 48, 50, 48, 51, 48, 52, 48, 53, 48, 54, 48, 55, 48, 56, 48, 57, 49, 48, 49, 49, 49, 50, 49, 51, 49, 52, 49, 53, 49, 54, 49, 55, 49, 56, 49, 57, 50, 48, 50, 49, 50, 50, 50, 51, 50, 52, 50, 53, 50, 54, 50, 55, 50, 56, 50, 57, 51, 48, 51, 49, 51, 50, 51, 51, 51, 52, 51, 53, 51, 54, 51, 55, 51, 56, 51, 57, 52, 48, 52, 49, 52, 50, 52, 51, 52, 52, 52, 53, 52, 54, 52, 55, 52, 56, 52, 57, 53, 48, 53, 49, 53, 50, 53, 51, 53, 52, 53, 53, 53, 54, 53, 55, 53, 56, 53, 57, 54, 48, 54, 49, 54, 50, 54, 51, 54, 52, 54, 53, 54, 54, 54, 55, 54, 56, 54, 57, 55, 48, 55, 49, 55, 50, 55, 51, 55, 52, 55, 53, 55, 54, 55, 55, 55, 56, 55, 57, 56, 48, 56, 49, 56, 50, 56, 51, 56, 52, 56, 53, 56, 54, 56, 55, 56, 56, 56, 57, 57, 48, 57, 49, 57, 50, 57, 51, 57, 52, 57, 53, 57, 54, 57, 55, 57, 56, 57, 57]⟩)) (.tmp 154)⟩, [0, 1, 2, 3, 4, 5, 6, 7, 8], none⟩,
        ⟨⟨(some 156), none, .idxS 1 (.tmp 145) (.tmp 147)⟩, [3, 4, 5, 9, 10], none⟩,
        ⟨⟨none, none, .store 1 (.tmp 156) (.tmp 153)⟩, [3, 4, 5, 9, 10], none⟩] [⟨(some 157), none, .idxS 1 (.tmp 148) (.tmp 150)⟩,
        ⟨none, none, .store 1 (.tmp 157) (.tmp 155)⟩] [0, 4, 12])
    (.ops [⟨(some 158), none, .mov (.tmp 4)⟩,
        ⟨(some 159), none, .bin .sub (.tmp 158) (.const (.int .i64 2))⟩,
        ⟨(some 4), none, .mov (.tmp 159)⟩] [0, 4, 12]))))
    (.skip)))
  (.seq (.ops [⟨(some 160), none, .mov (.tmp 4)⟩,
      ⟨(some 161), none, .bin .gtr (.tmp 160) (.const (.int .i64 0))⟩] [0, 12, 161])
  (.cond (.tmp 161)
    (.ops [⟨(some 162), none, .mov (.tmp 0)⟩,
        ⟨(some 163), none, .mov (.tmp 12)⟩,
        ⟨(some 164), none, .bin .add (.const (.int .u32 48)) (.tmp 163)⟩,
        ⟨(some 165), none, .convI .u8 (.tmp 164)⟩,
        ⟨(some 166), none, .idxS 1 (.tmp 162) (.const (.int .i64 0))⟩,
        ⟨none, none, .store 1 (.tmp 166) (.tmp 165)⟩] [])
    (.skip))))))),
  167, [], false⟩
theorem ok78 : FunOK Tryd.prog 78 c78 := ⟨⟨Tryd.f78, _, c78.code, Tryd.func78, rfl, by kernel_rfl, rfl, by kernel_rfl, by kernel_rfl⟩⟩
/- internal/strconv.formatBits (1 operations that the interpreter lacks) -/
def c79l0 : AC :=
  .seq (.seq (.ops [⟨(some 66), none, .mov (.tmp 1)⟩,
            ⟨(some 67), none, .mov (.tmp 17)⟩,
            ⟨(some 68), none, .bin .geq (.tmp 66) (.tmp 67)⟩] [0, 1, 3, 4, 10, 11, 12, 13, 17, 68])
        (.cond (.tmp 68)
          (.skip)
          (.exit 2)))
        (.block 3
          (.seq (.ops [⟨(some 69), none, .mov (.tmp 13)⟩,
              ⟨(some 70), none, .bin .sub (.tmp 69) (.const (.int .i64 1))⟩,
              ⟨(some 13), none, .mov (.tmp 70)⟩] [0, 1, 3, 4, 10, 11, 12, 13, 17])
          (.seq (.ops [⟨(some 71), none, .mov (.tmp 1)⟩,
              ⟨(some 72), none, .mov (.tmp 17)⟩,
              ⟨(some 73), none, .bin .quo (.tmp 71) (.tmp 72)⟩,
              ⟨(some 18), none, .mov (.tmp 73)⟩] [0, 1, 3, 4, 10, 11, 12, 13, 17, 18])
          (.seq (.ops [⟨(some 74), none, .mov (.tmp 13)⟩,
              ⟨(some 75), none, .mov (.tmp 1)⟩,
              ⟨(some 76), none, .mov (.tmp 18)⟩,
              ⟨(some 77), none, .mov (.tmp 17)⟩,
              ⟨(some 78), none, .bin .mul (.tmp 76) (.tmp 77)⟩,
              ⟨(some 79), none, .bin .sub (.tmp 75) (.tmp 78)⟩,
              ⟨(some 80), none, .idxStr (.const (.string ⟨#[48, 49, 50, 51, 52, 53, 54, 55, 56, 57, 97, 98, 99, 100, 101, 102, 103, 104, 105, 106, 107, 108, 109, 110, 111, 112, 113, 114, 115, 116, 117, 118, 119, 120, 121, 122]⟩)) (.tmp 79)⟩,
              ⟨(some 81), none, .idxA 65 1 (.tmp 12) (.tmp 74)⟩,
              ⟨none, none, .store 1 (.tmp 81) (.tmp 80)⟩] [0, 3, 4, 10, 11, 12, 13, 17, 18])
          (.ops [⟨(some 82), none, .mov (.tmp 18)⟩,
              ⟨(some 1), none, .mov (.tmp 82)⟩] [0, 1, 3, 4, 10, 11, 12, 13, 17])))))
def c79l1 : AC :=
  .seq (.seq (.ops [⟨(some 44), none, .mov (.tmp 1)⟩,
            ⟨(some 45), none, .mov (.tmp 15)⟩,
            ⟨(some 46), none, .bin .geq (.tmp 44) (.tmp 45)⟩] [0, 1, 3, 4, 10, 11, 12, 13, 14, 15, 16, 46])
        (.cond (.tmp 46)
          (.skip)
          (.exit 0)))
        (.block 1
          (.seq (.ops [⟨(some 47), none, .mov (.tmp 13)⟩,
              ⟨(some 48), none, .bin .sub (.tmp 47) (.const (.int .i64 1))⟩,
              ⟨(some 13), none, .mov (.tmp 48)⟩] [0, 1, 3, 4, 10, 11, 12, 13, 14, 15, 16])
          (.seq (.ops [⟨(some 49), none, .mov (.tmp 13)⟩,
              ⟨(some 50), none, .mov (.tmp 1)⟩,
              ⟨(some 51), none, .mov (.tmp 16)⟩,
              ⟨(some 52), none, .bin .and (.tmp 50) (.tmp 51)⟩,
              ⟨(some 53), none, .idxStr (.const (.string ⟨#[48, 49, 50, 51, 52, 53, 54, 55, 56, 57, 97, 98, 99, 100, 101, 102, 103, 104, 105, 106, 107, 108, 109, 110, 111, 112, 113, 114, 115, 116, 117, 118, 119, 120, 121, 122]⟩)) (.tmp 52)⟩,
              ⟨(some 54), none, .idxA 65 1 (.tmp 12) (.tmp 49)⟩,
              ⟨none, none, .store 1 (.tmp 54) (.tmp 53)⟩] [0, 1, 3, 4, 10, 11, 12, 13, 14, 15, 16])
          (.ops [⟨(some 55), none, .mov (.tmp 1)⟩,
              ⟨(some 56), none, .mov (.tmp 14)⟩,
              ⟨(some 57), none, .bin .shr (.tmp 55) (.tmp 56)⟩,
              ⟨(some 1), none, .mov (.tmp 57)⟩] [0, 1, 3, 4, 10, 11, 12, 13, 14, 15, 16]))))
def c79 : AFun := ⟨
  .seq (.ops [⟨(some 10), none, .mov (.const (.slice none 0 0))⟩,
      ⟨(some 11), none, .mov (.const (.string ⟨#[]⟩))⟩] [0, 1, 2, 3, 4, 10, 11])
  (.seq (.seq (.ops [⟨(some 19), none, .mov (.tmp 2)⟩,
      ⟨(some 20), none, .bin .lss (.tmp 19) (.const (.int .i64 2))⟩,
      ⟨(some 21), none, .mov (.tmp 20)⟩,
      ⟨(some 22), (some (21, false)), .mov (.tmp 2)⟩,
      ⟨(some 23), (some (21, false)), .bin .eql (.tmp 22) (.const (.int .i64 10))⟩,
      ⟨(some 24), none, .pick (.tmp 21) (.const (.bool true)) (.tmp 23)⟩,
      ⟨(some 25), none, .mov (.tmp 24)⟩,
      ⟨(some 26), (some (25, false)), .mov (.tmp 2)⟩,
      ⟨(some 27), (some (25, false)), .bin .gtr (.tmp 26) (.const (.int .i64 36))⟩,
      ⟨(some 28), none, .pick (.tmp 25) (.const (.bool true)) (.tmp 27)⟩] [0, 1, 2, 3, 4, 10, 11, 28])
  (.cond (.tmp 28)
    (.ops [⟨(some 29), none, .mkIf 9 (.const (.string ⟨#[115, 116, 114, 99, 111, 110, 118, 58, 32, 105, 108, 108, 101, 103, 97, 108, 32, 65, 112, 112, 101, 110, 100, 73, 110, 116, 47, 70, 111, 114, 109, 97, 116, 73, 110, 116, 32, 98, 97, 115, 101]⟩))⟩,
        ⟨none, none, .bad⟩] [0, 1, 2, 3, 4, 10, 11])
    (.skip)))
  (.seq (.ops [⟨(some 12), none, .alloc 125 [(65, (.int .u8 0))]⟩] [0, 1, 2, 3, 4, 10, 11, 12])
  (.seq (.ops [⟨(some 13), none, .mov (.const (.int .i64 65))⟩] [0, 1, 2, 3, 4, 10, 11, 12, 13])
  (.seq (.seq (.ops [⟨(some 30), none, .mov (.tmp 3)⟩] [0, 1, 2, 3, 4, 10, 11, 12, 13, 30])
  (.cond (.tmp 30)
    (.ops [⟨(some 31), none, .mov (.tmp 1)⟩,
        ⟨(some 32), none, .un .neg (.tmp 31)⟩,
        ⟨(some 1), none, .mov (.tmp 32)⟩] [0, 1, 2, 3, 4, 10, 11, 12, 13])
    (.skip)))
  (.seq (.seq (.ops [⟨(some 33), none, .mov (.tmp 2)⟩,
      ⟨(some 34), none, .callF 90 [(.tmp 33)]⟩] [0, 1, 2, 3, 4, 10, 11, 12, 13, 34])
  (.cond (.tmp 34)
    (.seq (.ops [⟨(some 35), none, .mov (.tmp 2)⟩,
        ⟨(some 36), none, .convI .u64 (.tmp 35)⟩,
        ⟨(some 37), none, .callF 91 [(.tmp 36)]⟩,
        ⟨(some 38), none, .convI .u64 (.tmp 37)⟩,
        ⟨(some 14), none, .mov (.tmp 38)⟩] [0, 1, 2, 3, 4, 10, 11, 12, 13, 14])
    (.seq (.ops [⟨(some 39), none, .mov (.tmp 2)⟩,
        ⟨(some 40), none, .convI .u64 (.tmp 39)⟩,
        ⟨(some 15), none, .mov (.tmp 40)⟩] [0, 1, 2, 3, 4, 10, 11, 12, 13, 14, 15])
    (.seq (.ops [⟨(some 41), none, .mov (.tmp 2)⟩,
        ⟨(some 42), none, .convI .u64 (.tmp 41)⟩,
        ⟨(some 43), none, .bin .sub (.tmp 42) (.const (.int .u64 1))⟩,
        ⟨(some 16), none, .mov (.tmp 43)⟩] [0, 1, 3, 4, 10, 11, 12, 13, 14, 15, 16])
    (.seq (.block 0
      (.loop [0, 1, 3, 4, 10, 11, 12, 13, 14, 15, 16]
        c79l1))
    (.seq (.ops [⟨(some 58), none, .mov (.tmp 13)⟩,
        ⟨(some 59), none, .bin .sub (.tmp 58) (.const (.int .i64 1))⟩,
        ⟨(some 13), none, .mov (.tmp 59)⟩] [0, 1, 3, 4, 10, 11, 12, 13])
    (.ops [⟨(some 60), none, .mov (.tmp 13)⟩,
        ⟨(some 61), none, .mov (.tmp 1)⟩,
        ⟨(some 62), none, .idxStr (.const (.string ⟨#[48, 49, 50, 51, 52, 53, 54, 55, 56, 57, 97, 98, 99, 100, 101, 102, 103, 104, 105, 106, 107, 108, 109, 110, 111, 112, 113, 114, 115, 116, 117, 118, 119, 120, 121, 122]⟩)) (.tmp 61)⟩,
        ⟨(some 63), none, .idxA 65 1 (.tmp 12) (.tmp 60)⟩,
        ⟨none, none, .store 1 (.tmp 63) (.tmp 62)⟩] [0, 3, 4, 10, 11, 12, 13]))))))
    (.seq (.ops [⟨(some 64), none, .mov (.tmp 2)⟩,
        ⟨(some 65), none, .convI .u64 (.tmp 64)⟩,
        ⟨(some 17), none, .mov (.tmp 65)⟩] [0, 1, 3, 4, 10, 11, 12, 13, 17])
    (.seq (.block 2
      (.loop [0, 1, 3, 4, 10, 11, 12, 13, 17]
        c79l0))
    (.seq (.ops [⟨(some 83), none, .mov (.tmp 13)⟩,
        ⟨(some 84), none, .bin .sub (.tmp 83) (.const (.int .i64 1))⟩,
        ⟨(some 13), none, .mov (.tmp 84)⟩] [0, 1, 3, 4, 10, 11, 12, 13])
    (.ops [⟨(some 85), none, .mov (.tmp 13)⟩,
        ⟨(some 86), none, .mov (.tmp 1)⟩,
        ⟨(some 87), none, .idxStr (.const (.string ⟨#[48, 49, 50, 51, 52, 53, 54, 55, 56, 57, 97, 98, 99, 100, 101, 102, 103, 104, 105, 106, 107, 108, 109, 110, 111, 112, 113, 114, 115, 116, 117, 118, 119, 120, 121, 122]⟩)) (.tmp 86)⟩,
        ⟨(some 88), none, .idxA 65 1 (.tmp 12) (.tmp 85)⟩,
        ⟨none, none, .store 1 (.tmp 88) (.tmp 87)⟩] [0, 3, 4, 10, 11, 12, 13]))))))
  (.seq (.seq (.ops [⟨(some 89), none, .mov (.tmp 3)⟩] [0, 4, 10, 11, 12, 13, 89])
  (.cond (.tmp 89)
    (.seq (.ops [⟨(some 90), none, .mov (.tmp 13)⟩,
        ⟨(some 91), none, .bin .sub (.tmp 90) (.const (.int .i64 1))⟩,
        ⟨(some 13), none, .mov (.tmp 91)⟩] [0, 4, 10, 11, 12, 13])
    (.ops [⟨(some 92), none, .mov (.tmp 13)⟩,
        ⟨(some 93), none, .idxA 65 1 (.tmp 12) (.tmp 92)⟩,
        ⟨none, none, .store 1 (.tmp 93) (.const (.int .u8 45))⟩] [0, 4, 10, 11, 12, 13]))
    (.skip)))
  (.seq (.seq (.ops [⟨(some 94), none, .mov (.tmp 4)⟩] [0, 10, 11, 12, 13, 94])
  (.cond (.tmp 94)
    (.seq (.ops [⟨(some 95), none, .mov (.tmp 0)⟩,
        ⟨(some 96), none, .mov (.tmp 13)⟩,
        ⟨(some 97), none, .slcA 65 1 (.tmp 12) (some (.tmp 96)) none⟩,
        ⟨(some 98), none, .app 5 1 1 (.tmp 95) (.tmp 97)⟩,
        ⟨(some 10), none, .mov (.tmp 98)⟩] [10, 11])
    (.ret))
    (.skip)))
  (.seq (.ops [⟨(some 99), none, .mov (.tmp 13)⟩,
      ⟨(some 100), none, .slcA 65 1 (.tmp 12) (some (.tmp 99)) none⟩,
      ⟨(some 101), none, .b2s (.tmp 100)⟩,
      ⟨(some 11), none, .mov (.tmp 101)⟩] [10, 11])
  (.ret))))))))),
  102, [(10, none), (11, none)], false⟩
theorem ok79 : FunOK Tryd.prog 79 c79 := ⟨⟨Tryd.f79, _, c79.code, Tryd.func79, rfl, by kernel_rfl, rfl, by kernel_rfl, by kernel_rfl⟩⟩
/- internal/stringslite.Index -/
def c83l0 : AC :=
  .seq (.seq (.ops [⟨(some 57), none, .mov (.tmp 8)⟩,
          ⟨(some 58), none, .mov (.tmp 9)⟩,
          ⟨(some 59), none, .bin .lss (.tmp 57) (.tmp 58)⟩] [0, 1, 5, 6, 7, 8, 9, 10, 59])
      (.cond (.tmp 59)
        (.skip)
        (.exit 1)))
      (.block 2
        (.seq (.seq (.ops [⟨(some 60), none, .mov (.tmp 0)⟩,
            ⟨(some 61), none, .mov (.tmp 8)⟩,
            ⟨(some 62), none, .idxStr (.tmp 60) (.tmp 61)⟩,
            ⟨(some 63), none, .mov (.tmp 6)⟩,
            ⟨(some 64), none, .bin .neq (.tmp 62) (.tmp 63)⟩] [0, 1, 5, 6, 7, 8, 9, 10, 64])
        (.cond (.tmp 64)
          (.seq (.ops [⟨(some 65), none, .mov (.tmp 0)⟩,
              ⟨(some 66), none, .mov (.tmp 8)⟩,
              ⟨(some 67), none, .bin .add (.tmp 66) (.const (.int .i64 1))⟩,
              ⟨(some 68), none, .mov (.tmp 9)⟩,
              ⟨(some 69), none, .slcS (.tmp 65) (some (.tmp 67)) (some (.tmp 68))⟩,
              ⟨(some 70), none, .mov (.tmp 6)⟩,
              ⟨(some 71), none, .callF 93 [(.tmp 69), (.tmp 70)]⟩,
              ⟨(some 11), none, .mov (.tmp 71)⟩] [0, 1, 5, 6, 7, 8, 9, 10, 11])
          (.seq (.seq (.ops [⟨(some 72), none, .mov (.tmp 11)⟩,
              ⟨(some 73), none, .bin .lss (.tmp 72) (.const (.int .i64 0))⟩] [0, 1, 5, 6, 7, 8, 9, 10, 11, 73])
          (.cond (.tmp 73)
            (.seq (.ops [⟨(some 4), none, .mov (.const (.int .i64 (-1)))⟩] [4])
            (.ret))
            (.skip)))
          (.ops [⟨(some 74), none, .mov (.tmp 8)⟩,
              ⟨(some 75), none, .mov (.tmp 11)⟩,
              ⟨(some 76), none, .bin .add (.tmp 75) (.const (.int .i64 1))⟩,
              ⟨(some 77), none, .bin .add (.tmp 74) (.tmp 76)⟩,
              ⟨(some 8), none, .mov (.tmp 77)⟩] [0, 1, 5, 6, 7, 8, 9, 10])))
          (.skip)))
        (.seq (.seq (.ops [⟨(some 78), none, .mov (.tmp 0)⟩,
            ⟨(some 79), none, .mov (.tmp 8)⟩,
            ⟨(some 80), none, .bin .add (.tmp 79) (.const (.int .i64 1))⟩,
            ⟨(some 81), none, .idxStr (.tmp 78) (.tmp 80)⟩,
            ⟨(some 82), none, .mov (.tmp 7)⟩,
            ⟨(some 83), none, .bin .eql (.tmp 81) (.tmp 82)⟩,
            ⟨(some 84), none, .mov (.tmp 83)⟩,
            ⟨(some 85), (some (84, true)), .mov (.tmp 0)⟩,
            ⟨(some 86), (some (84, true)), .mov (.tmp 8)⟩,
            ⟨(some 87), (some (84, true)), .mov (.tmp 8)⟩,
            ⟨(some 88), (some (84, true)), .mov (.tmp 5)⟩,
            ⟨(some 89), (some (84, true)), .bin .add (.tmp 87) (.tmp 88)⟩,
            ⟨(some 90), (some (84, true)), .slcS (.tmp 85) (some (.tmp 86)) (some (.tmp 89))⟩,
            ⟨(some 91), (some (84, true)), .mov (.tmp 1)⟩,
            ⟨(some 92), (some (84, true)), .bin .eql (.tmp 90) (.tmp 91)⟩,
            ⟨(some 93), none, .pick (.tmp 84) (.tmp 92) (.const (.bool false))⟩] [0, 1, 5, 6, 7, 8, 9, 10, 93])
        (.cond (.tmp 93)
          (.seq (.ops [⟨(some 94), none, .mov (.tmp 8)⟩,
              ⟨(some 4), none, .mov (.tmp 94)⟩] [4])
          (.ret))
          (.skip)))
        (.seq (.ops [⟨(some 95), none, .mov (.tmp 8)⟩,
            ⟨(some 96), none, .bin .add (.tmp 95) (.const (.int .i64 1))⟩,
            ⟨(some 8), none, .mov (.tmp 96)⟩] [0, 1, 5, 6, 7, 8, 9, 10])
        (.seq (.ops [⟨(some 97), none, .mov (.tmp 10)⟩,
            ⟨(some 98), none, .bin .add (.tmp 97) (.const (.int .i64 1))⟩,
            ⟨(some 10), none, .mov (.tmp 98)⟩] [0, 1, 5, 6, 7, 8, 9, 10])
        (.seq (.ops [⟨(some 99), none, .mov (.tmp 5)⟩,
            ⟨(some 100), none, .load none (.global 2)⟩,
            ⟨(some 101), none, .bin .leq (.tmp 99) (.tmp 100)⟩,
            ⟨(some 102), none, .mov (.tmp 101)⟩,
            ⟨(some 103), (some (102, true)), .mov (.tmp 10)⟩,
            ⟨(some 104), (some (102, true)), .mov (.tmp 8)⟩,
            ⟨(some 105), (some (102, true)), .callF 95 [(.tmp 104)]⟩,
            ⟨(some 106), (some (102, true)), .bin .gtr (.tmp 103) (.tmp 105)⟩,
            ⟨(some 107), none, .pick (.tmp 102) (.tmp 106) (.const (.bool false))⟩] [0, 1, 5, 6, 7, 8, 9, 10, 107])
        (.cond (.tmp 107)
          (.seq (.ops [⟨(some 108), none, .mov (.tmp 0)⟩,
              ⟨(some 109), none, .mov (.tmp 8)⟩,
              ⟨(some 110), none, .slcS (.tmp 108) (some (.tmp 109)) none⟩,
              ⟨(some 111), none, .mov (.tmp 1)⟩,
              ⟨(some 112), none, .callF 94 [(.tmp 110), (.tmp 111)]⟩,
              ⟨(some 12), none, .mov (.tmp 112)⟩] [8, 12])
          (.seq (.seq (.ops [⟨(some 113), none, .mov (.tmp 12)⟩,
              ⟨(some 114), none, .bin .geq (.tmp 113) (.const (.int .i64 0))⟩] [8, 12, 114])
          (.cond (.tmp 114)
            (.seq (.ops [⟨(some 115), none, .mov (.tmp 12)⟩,
                ⟨(some 116), none, .mov (.tmp 8)⟩,
                ⟨(some 117), none, .bin .add (.tmp 115) (.tmp 116)⟩,
                ⟨(some 4), none, .mov (.tmp 117)⟩] [4])
            (.ret))
            (.skip)))
          (.seq (.ops [⟨(some 4), none, .mov (.const (.int .i64 (-1)))⟩] [4])
          (.ret))))
          (.seq (.ops [⟨(some 118), none, .mov (.tmp 5)⟩,
              ⟨(some 119), none, .load none (.global 2)⟩,
              ⟨(some 120), none, .bin .gtr (.tmp 118) (.tmp 119)⟩,
              ⟨(some 121), none, .mov (.tmp 120)⟩,
              ⟨(some 122), (some (121, true)), .mov (.tmp 10)⟩,
              ⟨(some 123), (some (121, true)), .mov (.tmp 8)⟩,
              ⟨(some 124), (some (121, true)), .bin .shr (.tmp 123) (.const (.int .u64 4))⟩,
              ⟨(some 125), (some (121, true)), .bin .add (.const (.int .i64 4)) (.tmp 124)⟩,
              ⟨(some 126), (some (121, true)), .bin .geq (.tmp 122) (.tmp 125)⟩,
              ⟨(some 127), none, .pick (.tmp 121) (.tmp 126) (.const (.bool false))⟩,
              ⟨(some 128), none, .mov (.tmp 127)⟩,
              ⟨(some 129), (some (128, true)), .mov (.tmp 8)⟩,
              ⟨(some 130), (some (128, true)), .mov (.tmp 9)⟩,
              ⟨(some 131), (some (128, true)), .bin .lss (.tmp 129) (.tmp 130)⟩,
              ⟨(some 132), none, .pick (.tmp 128) (.tmp 131) (.const (.bool false))⟩] [0, 1, 5, 6, 7, 8, 9, 10, 132])
          (.cond (.tmp 132)
            (.seq (.ops [⟨(some 133), none, .mov (.tmp 0)⟩,
                ⟨(some 134), none, .mov (.tmp 8)⟩,
                ⟨(some 135), none, .slcS (.tmp 133) (some (.tmp 134)) none⟩,
                ⟨(some 136), none, .mov (.tmp 1)⟩,
                ⟨(some 137), none, .callF 96 [(.tmp 135), (.tmp 136)]⟩,
                ⟨(some 13), none, .mov (.tmp 137)⟩] [8, 13])
            (.seq (.seq (.ops [⟨(some 138), none, .mov (.tmp 13)⟩,
                ⟨(some 139), none, .bin .lss (.tmp 138) (.const (.int .i64 0))⟩] [8, 13, 139])
            (.cond (.tmp 139)
              (.seq (.ops [⟨(some 4), none, .mov (.const (.int .i64 (-1)))⟩] [4])
              (.ret))
              (.skip)))
            (.seq (.ops [⟨(some 140), none, .mov (.tmp 8)⟩,
                ⟨(some 141), none, .mov (.tmp 13)⟩,
                ⟨(some 142), none, .bin .add (.tmp 140) (.tmp 141)⟩,
                ⟨(some 4), none, .mov (.tmp 142)⟩] [4])
            (.ret))))
            (.skip))))))))))
def c83 : AFun := ⟨
  .seq (.ops [⟨(some 4), none, .mov (.const (.int .i64 0))⟩] [0, 1])
  (.seq (.ops [⟨(some 14), none, .mov (.tmp 1)⟩,
      ⟨(some 15), none, .len true (.tmp 14)⟩,
      ⟨(some 5), none, .mov (.tmp 15)⟩] [0, 1, 5])
  (.seq (.block 0
    (.seq (.ops [⟨(some 17), none, .mov (.tmp 5)⟩,
        ⟨(some 18), none, .bin .eql (.tmp 17) (.const (.int .i64 0))⟩,
        ⟨(some 19), none, .mov (.tmp 18)⟩,
        ⟨(some 20), (some (19, false)), .mov (.tmp 1)⟩,
        ⟨(some 21), (some (19, false)), .mov (.tmp 0)⟩,
        ⟨(some 22), (some (19, false)), .bin .eql (.tmp 20) (.tmp 21)⟩,
        ⟨(some 23), none, .pick (.tmp 19) (.const (.bool true)) (.tmp 22)⟩,
        ⟨(some 16), none, .mov (.tmp 23)⟩] [0, 1, 5, 16])
    (.cond (.tmp 16)
      (.seq (.ops [⟨(some 4), none, .mov (.const (.int .i64 0))⟩] [4])
      (.ret))
      (.seq (.ops [⟨(some 25), none, .mov (.tmp 5)⟩,
          ⟨(some 26), none, .bin .eql (.tmp 25) (.const (.int .i64 1))⟩,
          ⟨(some 24), none, .mov (.tmp 26)⟩] [0, 1, 5, 24])
      (.cond (.tmp 24)
        (.seq (.ops [⟨(some 27), none, .mov (.tmp 0)⟩,
            ⟨(some 28), none, .mov (.tmp 1)⟩,
            ⟨(some 29), none, .idxStr (.tmp 28) (.const (.int .i64 0))⟩,
            ⟨(some 30), none, .callF 93 [(.tmp 27), (.tmp 29)]⟩,
            ⟨(some 4), none, .mov (.tmp 30)⟩] [4])
        (.ret))
        (.seq (.ops [⟨(some 32), none, .mov (.tmp 5)⟩,
            ⟨(some 33), none, .mov (.tmp 0)⟩,
            ⟨(some 34), none, .len true (.tmp 33)⟩,
            ⟨(some 35), none, .bin .geq (.tmp 32) (.tmp 34)⟩,
            ⟨(some 31), none, .mov (.tmp 35)⟩] [0, 1, 5, 31])
        (.cond (.tmp 31)
          (.seq (.ops [⟨(some 4), none, .mov (.const (.int .i64 (-1)))⟩] [4])
          (.ret))
          (.seq (.ops [⟨(some 37), none, .mov (.tmp 5)⟩,
              ⟨(some 38), none, .load none (.global 2)⟩,
              ⟨(some 39), none, .bin .leq (.tmp 37) (.tmp 38)⟩,
              ⟨(some 40), none, .mov (.tmp 39)⟩,
              ⟨(some 41), (some (40, true)), .mov (.tmp 0)⟩,
              ⟨(some 42), (some (40, true)), .len true (.tmp 41)⟩,
              ⟨(some 43), (some (40, true)), .bin .leq (.tmp 42) (.const (.int .i64 64))⟩,
              ⟨(some 44), none, .pick (.tmp 40) (.tmp 43) (.const (.bool false))⟩,
              ⟨(some 36), none, .mov (.tmp 44)⟩] [0, 1, 5, 36])
          (.cond (.tmp 36)
            (.seq (.ops [⟨(some 45), none, .mov (.tmp 0)⟩,
                ⟨(some 46), none, .mov (.tmp 1)⟩,
                ⟨(some 47), none, .callF 94 [(.tmp 45), (.tmp 46)]⟩,
                ⟨(some 4), none, .mov (.tmp 47)⟩] [4])
            (.ret))
            (.skip))))))))))
  (.seq (.ops [⟨(some 48), none, .mov (.tmp 1)⟩,
      ⟨(some 49), none, .idxStr (.tmp 48) (.const (.int .i64 0))⟩,
      ⟨(some 6), none, .mov (.tmp 49)⟩] [0, 1, 5, 6])
  (.seq (.ops [⟨(some 50), none, .mov (.tmp 1)⟩,
      ⟨(some 51), none, .idxStr (.tmp 50) (.const (.int .i64 1))⟩,
      ⟨(some 7), none, .mov (.tmp 51)⟩] [0, 1, 5, 6, 7])
  (.seq (.ops [⟨(some 8), none, .mov (.const (.int .i64 0))⟩] [0, 1, 5, 6, 7, 8])
  (.seq (.ops [⟨(some 52), none, .mov (.tmp 0)⟩,
      ⟨(some 53), none, .len true (.tmp 52)⟩,
      ⟨(some 54), none, .mov (.tmp 5)⟩,
      ⟨(some 55), none, .bin .sub (.tmp 53) (.tmp 54)⟩,
      ⟨(some 56), none, .bin .add (.tmp 55) (.const (.int .i64 1))⟩,
      ⟨(some 9), none, .mov (.tmp 56)⟩] [0, 1, 5, 6, 7, 8, 9])
  (.seq (.ops [⟨(some 10), none, .mov (.const (.int .i64 0))⟩] [0, 1, 5, 6, 7, 8, 9, 10])
  (.seq (.block 1
    (.loop [0, 1, 5, 6, 7, 8, 9, 10]
      c83l0))
  (.seq (.ops [⟨(some 4), none, .mov (.const (.int .i64 (-1)))⟩] [4])
  (.ret)))))))))),
  143, [(4, none)], true⟩
theorem ok83 : FunOK Tryd.prog 83 c83 := ⟨⟨Tryd.f83, _, c83.code, Tryd.func83, rfl, by kernel_rfl, rfl, by kernel_rfl, by kernel_rfl⟩⟩
/- internal/strconv.ParseUint -/
def c84l0 : AC :=
  .seq (.ops [⟨(some 102), none, .bin .lss (.tmp 101) (.tmp 100)⟩] [1, 8, 9, 10, 11, 12, 13, 99, 100, 101, 102])
      (.seq (.cond (.tmp 102)
        (.skip)
        (.exit 3))
      (.seq (.block 4
        (.seq (.ops [⟨(some 103), none, .idxS 1 (.tmp 99) (.tmp 101)⟩,
            ⟨(some 104), none, .load none (.tmp 103)⟩,
            ⟨(some 15), none, .mov (.tmp 104)⟩] [1, 8, 9, 10, 11, 12, 13, 15, 99, 100, 101])
        (.seq (.ops [⟨(some 16), none, .mov (.const (.int .u8 0))⟩] [1, 8, 9, 10, 11, 12, 13, 15, 99, 100, 101])
        (.seq (.block 5
          (.seq (.ops [⟨(some 107), none, .mov (.tmp 15)⟩,
              ⟨(some 108), none, .bin .eql (.tmp 107) (.const (.int .u8 95))⟩,
              ⟨(some 109), none, .mov (.tmp 108)⟩,
              ⟨(some 110), (some (109, true)), .mov (.tmp 8)⟩,
              ⟨(some 111), none, .pick (.tmp 109) (.tmp 110) (.const (.bool false))⟩,
              ⟨(some 106), none, .mov (.tmp 111)⟩] [1, 8, 9, 10, 11, 12, 13, 15, 99, 100, 101, 106])
          (.cond (.tmp 106)
            (.seq (.ops [⟨(some 12), none, .mov (.const (.bool true))⟩] [1, 8, 9, 10, 11, 12, 13, 99, 100, 101])
            (.exit 4))
            (.seq (.ops [⟨(some 113), none, .mov (.tmp 15)⟩,
                ⟨(some 114), none, .bin .leq (.const (.int .u8 48)) (.tmp 113)⟩,
                ⟨(some 115), none, .mov (.tmp 114)⟩,
                ⟨(some 116), (some (115, true)), .mov (.tmp 15)⟩,
                ⟨(some 117), (some (115, true)), .bin .leq (.tmp 116) (.const (.int .u8 57))⟩,
                ⟨(some 118), none, .pick (.tmp 115) (.tmp 117) (.const (.bool false))⟩,
                ⟨(some 112), none, .mov (.tmp 118)⟩] [1, 8, 9, 10, 11, 12, 13, 15, 99, 100, 101, 112])
            (.cond (.tmp 112)
              (.ops [⟨(some 119), none, .mov (.tmp 15)⟩,
                  ⟨(some 120), none, .bin .sub (.tmp 119) (.const (.int .u8 48))⟩,
                  ⟨(some 16), none, .mov (.tmp 120)⟩] [1, 8, 9, 10, 11, 12, 13, 16, 99, 100, 101])
              (.seq (.ops [⟨(some 122), none, .mov (.tmp 15)⟩,
                  ⟨(some 123), none, .callF 97 [(.tmp 122)]⟩,
                  ⟨(some 124), none, .bin .leq (.const (.int .u8 97)) (.tmp 123)⟩,
                  ⟨(some 125), none, .mov (.tmp 124)⟩,
                  ⟨(some 126), (some (125, true)), .mov (.tmp 15)⟩,
                  ⟨(some 127), (some (125, true)), .callF 97 [(.tmp 126)]⟩,
                  ⟨(some 128), (some (125, true)), .bin .leq (.tmp 127) (.const (.int .u8 122))⟩,
                  ⟨(some 129), none, .pick (.tmp 125) (.tmp 128) (.const (.bool false))⟩,
                  ⟨(some 121), none, .mov (.tmp 129)⟩] [1, 8, 9, 10, 11, 12, 13, 15, 99, 100, 101, 121])
              (.cond (.tmp 121)
                (.ops [⟨(some 130), none, .mov (.tmp 15)⟩,
                    ⟨(some 131), none, .callF 97 [(.tmp 130)]⟩,
                    ⟨(some 132), none, .bin .sub (.tmp 131) (.const (.int .u8 97))⟩,
                    ⟨(some 133), none, .bin .add (.tmp 132) (.const (.int .u8 10))⟩,
                    ⟨(some 16), none, .mov (.tmp 133)⟩] [1, 8, 9, 10, 11, 12, 13, 16, 99, 100, 101])
                (.seq (.ops [⟨(some 105), none, .mkIf 97 (.const (.int .i64 2))⟩,
                    ⟨(some 6), none, .mov (.const (.int .u64 0))⟩,
                    ⟨(some 7), none, .mov (.tmp 105)⟩] [6, 7])
                (.ret)))))))))
        (.seq (.seq (.ops [⟨(some 134), none, .mov (.tmp 16)⟩,
            ⟨(some 135), none, .mov (.tmp 1)⟩,
            ⟨(some 136), none, .convI .u8 (.tmp 135)⟩,
            ⟨(some 137), none, .bin .geq (.tmp 134) (.tmp 136)⟩] [1, 8, 9, 10, 11, 12, 13, 16, 99, 100, 101, 137])
        (.cond (.tmp 137)
          (.seq (.ops [⟨(some 138), none, .mkIf 97 (.const (.int .i64 2))⟩,
              ⟨(some 6), none, .mov (.const (.int .u64 0))⟩,
              ⟨(some 7), none, .mov (.tmp 138)⟩] [6, 7])
          (.ret))
          (.skip)))
        (.seq (.seq (.ops [⟨(some 139), none, .mov (.tmp 13)⟩,
            ⟨(some 140), none, .mov (.tmp 10)⟩,
            ⟨(some 141), none, .bin .geq (.tmp 139) (.tmp 140)⟩] [1, 8, 9, 10, 11, 12, 13, 16, 99, 100, 101, 141])
        (.cond (.tmp 141)
          (.seq (.ops [⟨(some 142), none, .mov (.tmp 11)⟩,
              ⟨(some 143), none, .mkIf 97 (.const (.int .i64 1))⟩,
              ⟨(some 6), none, .mov (.tmp 142)⟩,
              ⟨(some 7), none, .mov (.tmp 143)⟩] [6, 7])
          (.ret))
          (.skip)))
        (.seq (.ops [⟨(some 144), none, .mov (.tmp 13)⟩,
            ⟨(some 145), none, .mov (.tmp 1)⟩,
            ⟨(some 146), none, .convI .u64 (.tmp 145)⟩,
            ⟨(some 147), none, .bin .mul (.tmp 144) (.tmp 146)⟩,
            ⟨(some 13), none, .mov (.tmp 147)⟩] [1, 8, 9, 10, 11, 12, 13, 16, 99, 100, 101])
        (.seq (.ops [⟨(some 148), none, .mov (.tmp 13)⟩,
            ⟨(some 149), none, .mov (.tmp 16)⟩,
            ⟨(some 150), none, .convI .u64 (.tmp 149)⟩,
            ⟨(some 151), none, .bin .add (.tmp 148) (.tmp 150)⟩,
            ⟨(some 17), none, .mov (.tmp 151)⟩] [1, 8, 9, 10, 11, 12, 13, 17, 99, 100, 101])
        (.seq (.seq (.ops [⟨(some 152), none, .mov (.tmp 17)⟩,
            ⟨(some 153), none, .mov (.tmp 13)⟩,
            ⟨(some 154), none, .bin .lss (.tmp 152) (.tmp 153)⟩,
            ⟨(some 155), none, .mov (.tmp 154)⟩,
            ⟨(some 156), (some (155, false)), .mov (.tmp 17)⟩,
            ⟨(some 157), (some (155, false)), .mov (.tmp 11)⟩,
            ⟨(some 158), (some (155, false)), .bin .gtr (.tmp 156) (.tmp 157)⟩,
            ⟨(some 159), none, .pick (.tmp 155) (.const (.bool true)) (.tmp 158)⟩] [1, 8, 9, 10, 11, 12, 17, 99, 100, 101, 159])
        (.cond (.tmp 159)
          (.seq (.ops [⟨(some 160), none, .mov (.tmp 11)⟩,
              ⟨(some 161), none, .mkIf 97 (.const (.int .i64 1))⟩,
              ⟨(some 6), none, .mov (.tmp 160)⟩,
              ⟨(some 7), none, .mov (.tmp 161)⟩] [6, 7])
          (.ret))
          (.skip)))
        (.ops [⟨(some 162), none, .mov (.tmp 17)⟩,
            ⟨(some 13), none, .mov (.tmp 162)⟩] [1, 8, 9, 10, 11, 12, 13, 99, 100, 101]))))))))))
      (.ops [⟨(some 163), none, .bin .add (.tmp 101) (.const (.int .i64 1))⟩,
          ⟨(some 101), none, .mov (.tmp 163)⟩] [1, 8, 9, 10, 11, 12, 13, 99, 100, 101])))
def c84 : AFun := ⟨
  .seq (.ops [⟨(some 6), none, .mov (.const (.int .u64 0))⟩,
      ⟨(some 7), none, .mov (.const .nilIface)⟩] [0, 1, 2])
  (.seq (.seq (.ops [⟨(some 18), none, .mov (.tmp 0)⟩,
      ⟨(some 19), none, .bin .eql (.tmp 18) (.const (.string ⟨#[]⟩))⟩] [0, 1, 2, 19])
  (.cond (.tmp 19)
    (.seq (.ops [⟨(some 20), none, .mkIf 97 (.const (.int .i64 2))⟩,
        ⟨(some 6), none, .mov (.const (.int .u64 0))⟩,
        ⟨(some 7), none, .mov (.tmp 20)⟩] [6, 7])
    (.ret))
    (.skip)))
  (.seq (.ops [⟨(some 21), none, .mov (.tmp 1)⟩,
      ⟨(some 22), none, .bin .eql (.tmp 21) (.const (.int .i64 0))⟩,
      ⟨(some 8), none, .mov (.tmp 22)⟩] [0, 1, 2, 8])
  (.seq (.ops [⟨(some 23), none, .mov (.tmp 0)⟩,
      ⟨(some 9), none, .mov (.tmp 23)⟩] [0, 1, 2, 8, 9])
  (.seq (.block 0
    (.seq (.ops [⟨(some 26), none, .mov (.tmp 1)⟩,
        ⟨(some 27), none, .bin .leq (.const (.int .i64 2)) (.tmp 26)⟩,
        ⟨(some 28), none, .mov (.tmp 27)⟩,
        ⟨(some 29), (some (28, true)), .mov (.tmp 1)⟩,
        ⟨(some 30), (some (28, true)), .bin .leq (.tmp 29) (.const (.int .i64 36))⟩,
        ⟨(some 31), none, .pick (.tmp 28) (.tmp 30) (.const (.bool false))⟩,
        ⟨(some 25), none, .mov (.tmp 31)⟩] [0, 1, 2, 8, 9, 25])
    (.cond (.tmp 25)
      (.skip)
      (.seq (.ops [⟨(some 33), none, .mov (.tmp 1)⟩,
          ⟨(some 34), none, .bin .eql (.tmp 33) (.const (.int .i64 0))⟩,
          ⟨(some 32), none, .mov (.tmp 34)⟩] [0, 2, 8, 9, 32])
      (.cond (.tmp 32)
        (.seq (.ops [⟨(some 1), none, .mov (.const (.int .i64 10))⟩] [0, 1, 2, 8, 9])
        (.seq (.ops [⟨(some 35), none, .mov (.tmp 0)⟩,
            ⟨(some 36), none, .idxStr (.tmp 35) (.const (.int .i64 0))⟩,
            ⟨(some 37), none, .bin .eql (.tmp 36) (.const (.int .u8 48))⟩] [0, 1, 2, 8, 9, 37])
        (.cond (.tmp 37)
          (.block 1
            (.seq (.ops [⟨(some 41), none, .mov (.tmp 0)⟩,
                ⟨(some 42), none, .len true (.tmp 41)⟩,
                ⟨(some 43), none, .bin .geq (.tmp 42) (.const (.int .i64 3))⟩,
                ⟨(some 44), none, .mov (.tmp 43)⟩,
                ⟨(some 45), (some (44, true)), .mov (.tmp 0)⟩,
                ⟨(some 46), (some (44, true)), .idxStr (.tmp 45) (.const (.int .i64 1))⟩,
                ⟨(some 47), (some (44, true)), .callF 97 [(.tmp 46)]⟩,
                ⟨(some 48), (some (44, true)), .bin .eql (.tmp 47) (.const (.int .u8 98))⟩,
                ⟨(some 49), none, .pick (.tmp 44) (.tmp 48) (.const (.bool false))⟩,
                ⟨(some 40), none, .mov (.tmp 49)⟩] [0, 2, 8, 9, 40])
            (.cond (.tmp 40)
              (.seq (.ops [⟨(some 1), none, .mov (.const (.int .i64 2))⟩] [0, 1, 2, 8, 9])
              (.ops [⟨(some 50), none, .mov (.tmp 0)⟩,
                  ⟨(some 51), none, .slcS (.tmp 50) (some (.const (.int .i64 2))) none⟩,
                  ⟨(some 0), none, .mov (.tmp 51)⟩] [0, 1, 2, 8, 9]))
              (.seq (.ops [⟨(some 53), none, .mov (.tmp 0)⟩,
                  ⟨(some 54), none, .len true (.tmp 53)⟩,
                  ⟨(some 55), none, .bin .geq (.tmp 54) (.const (.int .i64 3))⟩,
                  ⟨(some 56), none, .mov (.tmp 55)⟩,
                  ⟨(some 57), (some (56, true)), .mov (.tmp 0)⟩,
                  ⟨(some 58), (some (56, true)), .idxStr (.tmp 57) (.const (.int .i64 1))⟩,
                  ⟨(some 59), (some (56, true)), .callF 97 [(.tmp 58)]⟩,
                  ⟨(some 60), (some (56, true)), .bin .eql (.tmp 59) (.const (.int .u8 111))⟩,
                  ⟨(some 61), none, .pick (.tmp 56) (.tmp 60) (.const (.bool false))⟩,
                  ⟨(some 52), none, .mov (.tmp 61)⟩] [0, 2, 8, 9, 52])
              (.cond (.tmp 52)
                (.seq (.ops [⟨(some 1), none, .mov (.const (.int .i64 8))⟩] [0, 1, 2, 8, 9])
                (.ops [⟨(some 62), none, .mov (.tmp 0)⟩,
                    ⟨(some 63), none, .slcS (.tmp 62) (some (.const (.int .i64 2))) none⟩,
                    ⟨(some 0), none, .mov (.tmp 63)⟩] [0, 1, 2, 8, 9]))
                (.seq (.ops [⟨(some 65), none, .mov (.tmp 0)⟩,
                    ⟨(some 66), none, .len true (.tmp 65)⟩,
                    ⟨(some 67), none, .bin .geq (.tmp 66) (.const (.int .i64 3))⟩,
                    ⟨(some 68), none, .mov (.tmp 67)⟩,
                    ⟨(some 69), (some (68, true)), .mov (.tmp 0)⟩,
                    ⟨(some 70), (some (68, true)), .idxStr (.tmp 69) (.const (.int .i64 1))⟩,
                    ⟨(some 71), (some (68, true)), .callF 97 [(.tmp 70)]⟩,
                    ⟨(some 72), (some (68, true)), .bin .eql (.tmp 71) (.const (.int .u8 120))⟩,
                    ⟨(some 73), none, .pick (.tmp 68) (.tmp 72) (.const (.bool false))⟩,
                    ⟨(some 64), none, .mov (.tmp 73)⟩] [0, 2, 8, 9, 64])
                (.cond (.tmp 64)
                  (.seq (.ops [⟨(some 1), none, .mov (.const (.int .i64 16))⟩] [0, 1, 2, 8, 9])
                  (.ops [⟨(some 74), none, .mov (.tmp 0)⟩,
                      ⟨(some 75), none, .slcS (.tmp 74) (some (.const (.int .i64 2))) none⟩,
                      ⟨(some 0), none, .mov (.tmp 75)⟩] [0, 1, 2, 8, 9]))
                  (.seq (.ops [⟨(some 1), none, .mov (.const (.int .i64 8))⟩] [0, 1, 2, 8, 9])
                  (.ops [⟨(some 38), none, .mov (.tmp 0)⟩,
                      ⟨(some 39), none, .slcS (.tmp 38) (some (.const (.int .i64 1))) none⟩,
                      ⟨(some 0), none, .mov (.tmp 39)⟩] [0, 1, 2, 8, 9])))))))))
          (.skip))))
        (.seq (.ops [⟨(some 24), none, .mkIf 97 (.const (.int .i64 3))⟩,
            ⟨(some 6), none, .mov (.const (.int .u64 0))⟩,
            ⟨(some 7), none, .mov (.tmp 24)⟩] [6, 7])
        (.ret)))))))
  (.seq (.seq (.ops [⟨(some 76), none, .mov (.tmp 2)⟩,
      ⟨(some 77), none, .bin .eql (.tmp 76) (.const (.int .i64 0))⟩] [0, 1, 2, 8, 9, 77])
  (.cond (.tmp 77)
    (.ops [⟨(some 2), none, .mov (.const (.int .i64 64))⟩] [0, 1, 2, 8, 9])
    (.seq (.ops [⟨(some 78), none, .mov (.tmp 2)⟩,
        ⟨(some 79), none, .bin .lss (.tmp 78) (.const (.int .i64 0))⟩,
        ⟨(some 80), none, .mov (.tmp 79)⟩,
        ⟨(some 81), (some (80, false)), .mov (.tmp 2)⟩,
        ⟨(some 82), (some (80, false)), .bin .gtr (.tmp 81) (.const (.int .i64 64))⟩,
        ⟨(some 83), none, .pick (.tmp 80) (.const (.bool true)) (.tmp 82)⟩] [0, 1, 2, 8, 9, 83])
    (.cond (.tmp 83)
      (.seq (.ops [⟨(some 84), none, .mkIf 97 (.const (.int .i64 4))⟩,
          ⟨(some 6), none, .mov (.const (.int .u64 0))⟩,
          ⟨(some 7), none, .mov (.tmp 84)⟩] [6, 7])
      (.ret))
      (.skip)))))
  (.seq (.ops [⟨(some 10), none, .mov (.const (.int .u64 0))⟩] [0, 1, 2, 8, 9])
  (.seq (.seq (.ops [⟨(some 85), none, .mov (.tmp 1)⟩] [0, 1, 2, 8, 9, 85])
  (.block 2
    (.seq (.ops [⟨(some 91), none, .bin .eql (.tmp 85) (.const (.int .i64 10))⟩,
        ⟨(some 90), none, .mov (.tmp 91)⟩] [0, 1, 2, 8, 9, 85, 90])
    (.cond (.tmp 90)
      (.ops [⟨(some 10), none, .mov (.const (.int .u64 1844674407370955162))⟩] [0, 1, 2, 8, 9, 10])
      (.seq (.ops [⟨(some 93), none, .bin .eql (.tmp 85) (.const (.int .i64 16))⟩,
          ⟨(some 92), none, .mov (.tmp 93)⟩] [0, 1, 2, 8, 9, 92])
      (.cond (.tmp 92)
        (.ops [⟨(some 10), none, .mov (.const (.int .u64 1152921504606846976))⟩] [0, 1, 2, 8, 9, 10])
        (.ops [⟨(some 86), none, .mov (.tmp 1)⟩,
            ⟨(some 87), none, .convI .u64 (.tmp 86)⟩,
            ⟨(some 88), none, .bin .quo (.const (.int .u64 18446744073709551615)) (.tmp 87)⟩,
            ⟨(some 89), none, .bin .add (.tmp 88) (.const (.int .u64 1))⟩,
            ⟨(some 10), none, .mov (.tmp 89)⟩] [0, 1, 2, 8, 9, 10])))))))
  (.seq (.ops [⟨(some 94), none, .mov (.tmp 2)⟩,
      ⟨(some 95), none, .convI .u64 (.tmp 94)⟩,
      ⟨(some 96), none, .bin .shl (.const (.int .u64 1)) (.tmp 95)⟩,
      ⟨(some 97), none, .bin .sub (.tmp 96) (.const (.int .u64 1))⟩,
      ⟨(some 11), none, .mov (.tmp 97)⟩] [0, 1, 8, 9, 10, 11])
  (.seq (.ops [⟨(some 12), none, .mov (.const (.bool false))⟩] [0, 1, 8, 9, 10, 11, 12])
  (.seq (.ops [⟨(some 13), none, .mov (.const (.int .u64 0))⟩] [0, 1, 8, 9, 10, 11, 12, 13])
  (.seq (.seq (.ops [⟨(some 98), none, .mov (.tmp 0)⟩,
      ⟨(some 99), none, .s2b 5 (.tmp 98)⟩,
      ⟨(some 100), none, .len false (.tmp 99)⟩,
      ⟨(some 101), none, .mov (.const (.int .i64 0))⟩] [1, 8, 9, 10, 11, 12, 13, 99, 100, 101])
  (.block 3
    (.loop [1, 8, 9, 10, 11, 12, 13, 99, 100, 101]
      c84l0)))
  (.seq (.seq (.ops [⟨(some 164), none, .mov (.tmp 12)⟩,
      ⟨(some 165), none, .mov (.tmp 164)⟩,
      ⟨(some 166), (some (165, true)), .mov (.tmp 9)⟩,
      ⟨(some 167), (some (165, true)), .callF 98 [(.tmp 166)]⟩,
      ⟨(some 168), (some (165, true)), .un .not (.tmp 167)⟩,
      ⟨(some 169), none, .pick (.tmp 165) (.tmp 168) (.const (.bool false))⟩] [13, 169])
  (.cond (.tmp 169)
    (.seq (.ops [⟨(some 170), none, .mkIf 97 (.const (.int .i64 2))⟩,
        ⟨(some 6), none, .mov (.const (.int .u64 0))⟩,
        ⟨(some 7), none, .mov (.tmp 170)⟩] [6, 7])
    (.ret))
    (.skip)))
  (.seq (.ops [⟨(some 171), none, .mov (.tmp 13)⟩,
      ⟨(some 6), none, .mov (.tmp 171)⟩,
      ⟨(some 7), none, .mov (.const .nilIface)⟩] [6, 7])
  (.ret)))))))))))))),
  172, [(6, none), (7, none)], true⟩
theorem ok84 : FunOK Tryd.prog 84 c84 := ⟨⟨Tryd.f84, _, c84.code, Tryd.func84, rfl, by kernel_rfl, rfl, by kernel_rfl, by kernel_rfl⟩⟩
/- internal/stringslite.Clone -/
def c85 : AFun := ⟨
  .seq (.ops [⟨(some 2), none, .mov (.const (.string ⟨#[]⟩))⟩] [0])
  (.seq (.seq (.ops [⟨(some 4), none, .mov (.tmp 0)⟩,
      ⟨(some 5), none, .len true (.tmp 4)⟩,
      ⟨(some 6), none, .bin .eql (.tmp 5) (.const (.int .i64 0))⟩] [0, 6])
  (.cond (.tmp 6)
    (.seq (.ops [⟨(some 2), none, .mov (.const (.string ⟨#[]⟩))⟩] [2])
    (.ret))
    (.skip)))
  (.seq (.ops [⟨(some 7), none, .mov (.tmp 0)⟩,
      ⟨(some 8), none, .len true (.tmp 7)⟩,
      ⟨(some 9), none, .mkSlice 5 1 1 [(.int .u8 0)] (.tmp 8) (.tmp 8)⟩,
      ⟨(some 3), none, .mov (.tmp 9)⟩] [0, 3])
  (.seq (.ops [⟨(some 10), none, .mov (.tmp 3)⟩,
      ⟨(some 11), none, .mov (.tmp 0)⟩,
      ⟨(some 12), none, .copy 1 (.tmp 10) (.tmp 11)⟩] [3])
  (.seq (.ops [⟨(some 13), none, .mov (.tmp 3)⟩,
      ⟨(some 14), none, .idxS 1 (.tmp 13) (.const (.int .i64 0))⟩,
      ⟨(some 15), none, .mov (.tmp 3)⟩,
      ⟨(some 16), none, .len false (.tmp 15)⟩,
      ⟨(some 17), none, .ustr 5 (.tmp 14) (.tmp 16)⟩,
      ⟨(some 2), none, .mov (.tmp 17)⟩] [2])
  (.ret))))),
  18, [(2, none)], true⟩
theorem ok85 : FunOK Tryd.prog 85 c85 := ⟨⟨Tryd.f85, _, c85.code, Tryd.func85, rfl, by kernel_rfl, rfl, by kernel_rfl, by kernel_rfl⟩⟩
/- internal/strconv.log10Pow2 -/
def c87 : AFun := ⟨
  .seq (.ops [⟨(some 2), none, .mov (.const (.int .i64 0))⟩] [0])
  (.seq (.ops [⟨(some 3), none, .mov (.tmp 0)⟩,
      ⟨(some 4), none, .bin .mul (.tmp 3) (.const (.int .i64 78913))⟩,
      ⟨(some 5), none, .bin .shr (.tmp 4) (.const (.int .u64 18))⟩,
      ⟨(some 2), none, .mov (.tmp 5)⟩] [2])
  (.ret)),
  6, [(2, none)], true⟩
theorem ok87 : FunOK Tryd.prog 87 c87 := ⟨⟨Tryd.f87, _, c87.code, Tryd.func87, rfl, by kernel_rfl, rfl, by kernel_rfl, by kernel_rfl⟩⟩
/- math/bits.Len64 -/
def c88 : AFun := ⟨
  .seq (.ops [⟨(some 2), none, .mov (.const (.int .i64 0))⟩] [0, 2])
  (.seq (.seq (.ops [⟨(some 3), none, .mov (.tmp 0)⟩,
      ⟨(some 4), none, .bin .geq (.tmp 3) (.const (.int .u64 4294967296))⟩] [0, 2, 4])
  (.cond (.tmp 4)
    (.seq (.ops [⟨(some 5), none, .mov (.tmp 0)⟩,
        ⟨(some 6), none, .bin .shr (.tmp 5) (.const (.int .u64 32))⟩,
        ⟨(some 0), none, .mov (.tmp 6)⟩] [0])
    (.ops [⟨(some 2), none, .mov (.const (.int .i64 32))⟩] [0, 2]))
    (.skip)))
  (.seq (.seq (.ops [⟨(some 7), none, .mov (.tmp 0)⟩,
      ⟨(some 8), none, .bin .geq (.tmp 7) (.const (.int .u64 65536))⟩] [0, 2, 8])
  (.cond (.tmp 8)
    (.seq (.ops [⟨(some 9), none, .mov (.tmp 0)⟩,
        ⟨(some 10), none, .bin .shr (.tmp 9) (.const (.int .u64 16))⟩,
        ⟨(some 0), none, .mov (.tmp 10)⟩] [0, 2])
    (.ops [⟨(some 11), none, .mov (.tmp 2)⟩,
        ⟨(some 12), none, .bin .add (.tmp 11) (.const (.int .i64 16))⟩,
        ⟨(some 2), none, .mov (.tmp 12)⟩] [0, 2]))
    (.skip)))
  (.seq (.seq (.ops [⟨(some 13), none, .mov (.tmp 0)⟩,
      ⟨(some 14), none, .bin .geq (.tmp 13) (.const (.int .u64 256))⟩] [0, 2, 14])
  (.cond (.tmp 14)
    (.seq (.ops [⟨(some 15), none, .mov (.tmp 0)⟩,
        ⟨(some 16), none, .bin .shr (.tmp 15) (.const (.int .u64 8))⟩,
        ⟨(some 0), none, .mov (.tmp 16)⟩] [0, 2])
    (.ops [⟨(some 17), none, .mov (.tmp 2)⟩,
        ⟨(some 18), none, .bin .add (.tmp 17) (.const (.int .i64 8))⟩,
        ⟨(some 2), none, .mov (.tmp 18)⟩] [0, 2]))
    (.skip)))
  (.seq (.ops [⟨(some 19), none, .mov (.tmp 2)⟩,
      ⟨(some 20), none, .mov (.tmp 0)⟩,
      ⟨(some 21), none, .convI .u8 (.tmp 20)⟩,
      ⟨(some 22), none, .idxStr (.const (.string ⟨#[0, 1, 2, 2, 3, 3, 3, 3, 4, 4, 4, 4, 4, 4, 4, 4, 5, 5, 5, 5, 5, 5, 5, 5, 5, 5, 5, 5, 5, 5, 5, 5, 6, 6, 6, 6, 6, 6, 6, 6, 6, 6, 6, 6, 6, 6, 6, 6, 6, 6, 6, 6, 6, 6, 6, 6, 6, 6, 6, 6, 6, 6, 6, 6, 7, 7, 7, 7, 7, 7, 7, 7, 7, 7, 7, 7, 7, 7, 7, 7, 7, 7, 7, 7, 7, 7, 7, 7, 7, 7, 7, 7, 7, 7, 7, 7, 7, 7, 7, 7, 7, 7, 7, 7, 7, 7, 7, 7, 7, 7, 7, 7, 7, 7, 7, 7, 7, 7, 7, 7, 7, 7, 7, 7, 7, 7, 7, 7, 8, 8, 8, 8, 8, 8, 8, 8, 8, 8, 8, 8, 8, 8, 8, 8, 8, 8, 8, 8, 8, 8, 8, 8, 8, 8, 8, 8, 8, 8, 8, 8, 8, 8, 8, 8, 8, 8, 8, 8, 8, 8, 8, 8, 8, 8, 8, 8, 8, 8, 8, 8, 8, 8, 8, 8, 8, 8, 8, 8, 8, 8, 8, 8, 8, 8, 8, 8, 8, 8, 8, 8, 8, 8, 8, 8, 8, 8, 8, 8, 8, 8, 8, 8, 8, 8, 8, 8, 8, 8, 8, 8, 8, 8, 8, 8, 8, 8, 8, 8, 8, 8, 8, 8, 8, 8, 8, 8, 8, 8, 8, 8, 8, 8, 8, 8, 8, 8, 8, 8, 8, 8, 8, 8, 8, 8, 8, 8]⟩)) (.tmp 21)⟩,
      ⟨(some 23), none, .convI .i64 (.tmp 22)⟩,
      ⟨(some 24), none, .bin .add (.tmp 19) (.tmp 23)⟩,
      ⟨(some 2), none, .mov (.tmp 24)⟩] [2])
  (.ret))))),
  25, [(2, none)], true⟩
theorem ok88 : FunOK Tryd.prog 88 c88 := ⟨⟨Tryd.f88, _, c88.code, Tryd.func88, rfl, by kernel_rfl, rfl, by kernel_rfl, by kernel_rfl⟩⟩
/- internal/strconv.bool2[int] -/
def c89 : AFun := ⟨
  .seq (.ops [⟨(some 2), none, .mov (.const (.int .i64 0))⟩] [0])
  (.seq (.seq (.ops [⟨(some 3), none, .mov (.tmp 0)⟩] [3])
  (.cond (.tmp 3)
    (.seq (.ops [⟨(some 2), none, .mov (.const (.int .i64 1))⟩] [2])
    (.ret))
    (.skip)))
  (.seq (.ops [⟨(some 2), none, .mov (.const (.int .i64 0))⟩] [2])
  (.ret))),
  4, [(2, none)], true⟩
theorem ok89 : FunOK Tryd.prog 89 c89 := ⟨⟨Tryd.f89, _, c89.code, Tryd.func89, rfl, by kernel_rfl, rfl, by kernel_rfl, by kernel_rfl⟩⟩
/- internal/strconv.isPowerOfTwo -/
def c90 : AFun := ⟨
  .seq (.ops [⟨(some 2), none, .mov (.const (.bool false))⟩] [0])
  (.seq (.ops [⟨(some 3), none, .mov (.tmp 0)⟩,
      ⟨(some 4), none, .mov (.tmp 0)⟩,
      ⟨(some 5), none, .bin .sub (.tmp 4) (.const (.int .i64 1))⟩,
      ⟨(some 6), none, .bin .and (.tmp 3) (.tmp 5)⟩,
      ⟨(some 7), none, .bin .eql (.tmp 6) (.const (.int .i64 0))⟩,
      ⟨(some 2), none, .mov (.tmp 7)⟩] [2])
  (.ret)),
  8, [(2, none)], true⟩
theorem ok90 : FunOK Tryd.prog 90 c90 := ⟨⟨Tryd.f90, _, c90.code, Tryd.func90, rfl, by kernel_rfl, rfl, by kernel_rfl, by kernel_rfl⟩⟩
/- math/bits.TrailingZeros -/
def c91 : AFun := ⟨
  .seq (.ops [⟨(some 2), none, .mov (.const (.int .i64 0))⟩] [0])
  (.seq (.cond (.const (.bool false))
    (.seq (.ops [⟨(some 3), none, .mov (.tmp 0)⟩,
        ⟨(some 4), none, .convI .u32 (.tmp 3)⟩,
        ⟨(some 5), none, .callF 99 [(.tmp 4)]⟩,
        ⟨(some 2), none, .mov (.tmp 5)⟩] [2])
    (.ret))
    (.skip))
  (.seq (.ops [⟨(some 6), none, .mov (.tmp 0)⟩,
      ⟨(some 7), none, .callF 100 [(.tmp 6)]⟩,
      ⟨(some 2), none, .mov (.tmp 7)⟩] [2])
  (.ret))),
  8, [(2, none)], true⟩
theorem ok91 : FunOK Tryd.prog 91 c91 := ⟨⟨Tryd.f91, _, c91.code, Tryd.func91, rfl, by kernel_rfl, rfl, by kernel_rfl, by kernel_rfl⟩⟩
/- internal/stringslite.IndexByte -/
def c93 : AFun := ⟨
  .seq (.ops [⟨(some 4), none, .mov (.const (.int .i64 0))⟩] [0, 1])
  (.seq (.ops [⟨(some 5), none, .mov (.tmp 0)⟩,
      ⟨(some 6), none, .mov (.tmp 1)⟩,
      ⟨(some 7), none, .callF 101 [(.tmp 5), (.tmp 6)]⟩,
      ⟨(some 4), none, .mov (.tmp 7)⟩] [4])
  (.ret)),
  8, [(4, none)], true⟩
theorem ok93 : FunOK Tryd.prog 93 c93 := ⟨⟨Tryd.f93, _, c93.code, Tryd.func93, rfl, by kernel_rfl, rfl, by kernel_rfl, by kernel_rfl⟩⟩
/- internal/strconv.lower -/
def c97 : AFun := ⟨
  .seq (.ops [⟨(some 2), none, .mov (.const (.int .u8 0))⟩] [0])
  (.seq (.ops [⟨(some 3), none, .mov (.tmp 0)⟩,
      ⟨(some 4), none, .bin .or (.tmp 3) (.const (.int .u8 32))⟩,
      ⟨(some 2), none, .mov (.tmp 4)⟩] [2])
  (.ret)),
  5, [(2, none)], true⟩
theorem ok97 : FunOK Tryd.prog 97 c97 := ⟨⟨Tryd.f97, _, c97.code, Tryd.func97, rfl, by kernel_rfl, rfl, by kernel_rfl, by kernel_rfl⟩⟩
/- internal/strconv.underscoreOK -/
def c98l0 : AC :=
  .seq (.seq (.ops [⟨(some 51), none, .mov (.tmp 4)⟩,
          ⟨(some 52), none, .mov (.tmp 0)⟩,
          ⟨(some 53), none, .len true (.tmp 52)⟩,
          ⟨(some 54), none, .bin .lss (.tmp 51) (.tmp 53)⟩] [0, 3, 4, 5, 54])
      (.cond (.tmp 54)
        (.skip)
        (.exit 0)))
      (.seq (.block 1
        (.seq (.seq (.ops [⟨(some 57), none, .mov (.tmp 0)⟩,
            ⟨(some 58), none, .mov (.tmp 4)⟩,
            ⟨(some 59), none, .idxStr (.tmp 57) (.tmp 58)⟩,
            ⟨(some 60), none, .bin .leq (.const (.int .u8 48)) (.tmp 59)⟩,
            ⟨(some 61), none, .mov (.tmp 60)⟩,
            ⟨(some 62), (some (61, true)), .mov (.tmp 0)⟩,
            ⟨(some 63), (some (61, true)), .mov (.tmp 4)⟩,
            ⟨(some 64), (some (61, true)), .idxStr (.tmp 62) (.tmp 63)⟩,
            ⟨(some 65), (some (61, true)), .bin .leq (.tmp 64) (.const (.int .u8 57))⟩,
            ⟨(some 66), none, .pick (.tmp 61) (.tmp 65) (.const (.bool false))⟩,
            ⟨(some 67), none, .mov (.tmp 66)⟩,
            ⟨(some 68), (some (67, false)), .mov (.tmp 5)⟩,
            ⟨(some 69), (some (67, false)), .mov (.tmp 68)⟩,
            ⟨(some 70), (some (69, true)), .mov (.tmp 0)⟩,
            ⟨(some 71), (some (69, true)), .mov (.tmp 4)⟩,
            ⟨(some 72), (some (69, true)), .idxStr (.tmp 70) (.tmp 71)⟩,
            ⟨(some 73), (some (69, true)), .callF 97 [(.tmp 72)]⟩,
            ⟨(some 74), (some (69, true)), .bin .leq (.const (.int .u8 97)) (.tmp 73)⟩,
            ⟨(some 75), (some (67, false)), .pick (.tmp 69) (.tmp 74) (.const (.bool false))⟩,
            ⟨(some 76), (some (67, false)), .mov (.tmp 75)⟩,
            ⟨(some 77), (some (76, true)), .mov (.tmp 0)⟩,
            ⟨(some 78), (some (76, true)), .mov (.tmp 4)⟩,
            ⟨(some 79), (some (76, true)), .idxStr (.tmp 77) (.tmp 78)⟩,
            ⟨(some 80), (some (76, true)), .callF 97 [(.tmp 79)]⟩,
            ⟨(some 81), (some (76, true)), .bin .leq (.tmp 80) (.const (.int .u8 102))⟩,
            ⟨(some 82), (some (67, false)), .pick (.tmp 76) (.tmp 81) (.const (.bool false))⟩,
            ⟨(some 83), none, .pick (.tmp 67) (.const (.bool true)) (.tmp 82)⟩] [0, 3, 4, 5, 83])
        (.cond (.tmp 83)
          (.seq (.ops [⟨(some 3), none, .mov (.const (.int .i32 48))⟩] [0, 3, 4, 5])
          (.exit 1))
          (.skip)))
        (.seq (.seq (.ops [⟨(some 84), none, .mov (.tmp 0)⟩,
            ⟨(some 85), none, .mov (.tmp 4)⟩,
            ⟨(some 86), none, .idxStr (.tmp 84) (.tmp 85)⟩,
            ⟨(some 87), none, .bin .eql (.tmp 86) (.const (.int .u8 95))⟩] [0, 3, 4, 5, 87])
        (.cond (.tmp 87)
          (.seq (.seq (.ops [⟨(some 88), none, .mov (.tmp 3)⟩,
              ⟨(some 89), none, .bin .neq (.tmp 88) (.const (.int .i32 48))⟩] [0, 4, 5, 89])
          (.cond (.tmp 89)
            (.seq (.ops [⟨(some 2), none, .mov (.const (.bool false))⟩] [2])
            (.ret))
            (.skip)))
          (.seq (.ops [⟨(some 3), none, .mov (.const (.int .i32 95))⟩] [0, 3, 4, 5])
          (.exit 1)))
          (.skip)))
        (.seq (.seq (.ops [⟨(some 90), none, .mov (.tmp 3)⟩,
            ⟨(some 91), none, .bin .eql (.tmp 90) (.const (.int .i32 95))⟩] [0, 4, 5, 91])
        (.cond (.tmp 91)
          (.seq (.ops [⟨(some 2), none, .mov (.const (.bool false))⟩] [2])
          (.ret))
          (.skip)))
        (.ops [⟨(some 3), none, .mov (.const (.int .i32 33))⟩] [0, 3, 4, 5])))))
      (.ops [⟨(some 55), none, .mov (.tmp 4)⟩,
          ⟨(some 56), none, .bin .add (.tmp 55) (.const (.int .i64 1))⟩,
          ⟨(some 4), none, .mov (.tmp 56)⟩] [0, 3, 4, 5]))
def c98 : AFun := ⟨
  .seq (.ops [⟨(some 2), none, .mov (.const (.bool false))⟩] [0])
  (.seq (.ops [⟨(some 3), none, .mov (.const (.int .i32 94))⟩] [0, 3])
  (.seq (.ops [⟨(some 4), none, .mov (.const (.int .i64 0))⟩] [0, 3, 4])
  (.seq (.seq (.ops [⟨(some 6), none, .mov (.tmp 0)⟩,
      ⟨(some 7), none, .len true (.tmp 6)⟩,
      ⟨(some 8), none, .bin .geq (.tmp 7) (.const (.int .i64 1))⟩,
      ⟨(some 9), none, .mov (.tmp 8)⟩,
      ⟨(some 10), (some (9, true)), .mov (.tmp 0)⟩,
      ⟨(some 11), (some (9, true)), .idxStr (.tmp 10) (.const (.int .i64 0))⟩,
      ⟨(some 12), (some (9, true)), .bin .eql (.tmp 11) (.const (.int .u8 45))⟩,
      ⟨(some 13), (some (9, true)), .mov (.tmp 12)⟩,
      ⟨(some 14), (some (13, false)), .mov (.tmp 0)⟩,
      ⟨(some 15), (some (13, false)), .idxStr (.tmp 14) (.const (.int .i64 0))⟩,
      ⟨(some 16), (some (13, false)), .bin .eql (.tmp 15) (.const (.int .u8 43))⟩,
      ⟨(some 17), (some (9, true)), .pick (.tmp 13) (.const (.bool true)) (.tmp 16)⟩,
      ⟨(some 18), none, .pick (.tmp 9) (.tmp 17) (.const (.bool false))⟩] [0, 3, 4, 18])
  (.cond (.tmp 18)
    (.ops [⟨(some 19), none, .mov (.tmp 0)⟩,
        ⟨(some 20), none, .slcS (.tmp 19) (some (.const (.int .i64 1))) none⟩,
        ⟨(some 0), none, .mov (.tmp 20)⟩] [0, 3, 4])
    (.skip)))
  (.seq (.ops [⟨(some 5), none, .mov (.const (.bool false))⟩] [0, 3, 4, 5])
  (.seq (.seq (.ops [⟨(some 21), none, .mov (.tmp 0)⟩,
      ⟨(some 22), none, .len true (.tmp 21)⟩,
      ⟨(some 23), none, .bin .geq (.tmp 22) (.const (.int .i64 2))⟩,
      ⟨(some 24), none, .mov (.tmp 23)⟩,
      ⟨(some 25), (some (24, true)), .mov (.tmp 0)⟩,
      ⟨(some 26), (some (24, true)), .idxStr (.tmp 25) (.const (.int .i64 0))⟩,
      ⟨(some 27), (some (24, true)), .bin .eql (.tmp 26) (.const (.int .u8 48))⟩,
      ⟨(some 28), none, .pick (.tmp 24) (.tmp 27) (.const (.bool false))⟩,
      ⟨(some 29), none, .mov (.tmp 28)⟩,
      ⟨(some 30), (some (29, true)), .mov (.tmp 0)⟩,
      ⟨(some 31), (some (29, true)), .idxStr (.tmp 30) (.const (.int .i64 1))⟩,
      ⟨(some 32), (some (29, true)), .callF 97 [(.tmp 31)]⟩,
      ⟨(some 33), (some (29, true)), .bin .eql (.tmp 32) (.const (.int .u8 98))⟩,
      ⟨(some 34), (some (29, true)), .mov (.tmp 33)⟩,
      ⟨(some 35), (some (34, false)), .mov (.tmp 0)⟩,
      ⟨(some 36), (some (34, false)), .idxStr (.tmp 35) (.const (.int .i64 1))⟩,
      ⟨(some 37), (some (34, false)), .callF 97 [(.tmp 36)]⟩,
      ⟨(some 38), (some (34, false)), .bin .eql (.tmp 37) (.const (.int .u8 111))⟩,
      ⟨(some 39), (some (29, true)), .pick (.tmp 34) (.const (.bool true)) (.tmp 38)⟩,
      ⟨(some 40), (some (29, true)), .mov (.tmp 39)⟩,
      ⟨(some 41), (some (40, false)), .mov (.tmp 0)⟩,
      ⟨(some 42), (some (40, false)), .idxStr (.tmp 41) (.const (.int .i64 1))⟩,
      ⟨(some 43), (some (40, false)), .callF 97 [(.tmp 42)]⟩,
      ⟨(some 44), (some (40, false)), .bin .eql (.tmp 43) (.const (.int .u8 120))⟩,
      ⟨(some 45), (some (29, true)), .pick (.tmp 40) (.const (.bool true)) (.tmp 44)⟩,
      ⟨(some 46), none, .pick (.tmp 29) (.tmp 45) (.const (.bool false))⟩] [0, 3, 4, 5, 46])
  (.cond (.tmp 46)
    (.seq (.ops [⟨(some 4), none, .mov (.const (.int .i64 2))⟩] [0, 4])
    (.seq (.ops [⟨(some 3), none, .mov (.const (.int .i32 48))⟩] [0, 3, 4])
    (.ops [⟨(some 47), none, .mov (.tmp 0)⟩,
        ⟨(some 48), none, .idxStr (.tmp 47) (.const (.int .i64 1))⟩,
        ⟨(some 49), none, .callF 97 [(.tmp 48)]⟩,
        ⟨(some 50), none, .bin .eql (.tmp 49) (.const (.int .u8 120))⟩,
        ⟨(some 5), none, .mov (.tmp 50)⟩] [0, 3, 4, 5])))
    (.skip)))
  (.seq (.block 0
    (.loop [0, 3, 4, 5]
      c98l0))
  (.seq (.ops [⟨(some 92), none, .mov (.tmp 3)⟩,
      ⟨(some 93), none, .bin .neq (.tmp 92) (.const (.int .i32 95))⟩,
      ⟨(some 2), none, .mov (.tmp 93)⟩] [2])
  (.ret)))))))),
  94, [(2, none)], true⟩
theorem ok98 : FunOK Tryd.prog 98 c98 := ⟨⟨Tryd.f98, _, c98.code, Tryd.func98, rfl, by kernel_rfl, rfl, by kernel_rfl, by kernel_rfl⟩⟩
/- math/bits.TrailingZeros32 -/
def c99 : AFun := ⟨
  .seq (.ops [⟨(some 2), none, .mov (.const (.int .i64 0))⟩] [0])
  (.seq (.seq (.ops [⟨(some 3), none, .mov (.tmp 0)⟩,
      ⟨(some 4), none, .bin .eql (.tmp 3) (.const (.int .u32 0))⟩] [0, 4])
  (.cond (.tmp 4)
    (.seq (.ops [⟨(some 2), none, .mov (.const (.int .i64 32))⟩] [2])
    (.ret))
    (.skip)))
  (.seq (.ops [⟨(some 5), none, .mov (.tmp 0)⟩,
      ⟨(some 6), none, .mov (.tmp 0)⟩,
      ⟨(some 7), none, .un .neg (.tmp 6)⟩,
      ⟨(some 8), none, .bin .and (.tmp 5) (.tmp 7)⟩,
      ⟨(some 9), none, .bin .mul (.tmp 8) (.const (.int .u32 125613361))⟩,
      ⟨(some 10), none, .bin .shr (.tmp 9) (.const (.int .u64 27))⟩,
      ⟨(some 11), none, .idxA 32 1 (.global 6) (.tmp 10)⟩,
      ⟨(some 12), none, .load none (.tmp 11)⟩,
      ⟨(some 13), none, .convI .i64 (.tmp 12)⟩,
      ⟨(some 2), none, .mov (.tmp 13)⟩] [2])
  (.ret))),
  14, [(2, none)], true⟩
theorem ok99 : FunOK Tryd.prog 99 c99 := ⟨⟨Tryd.f99, _, c99.code, Tryd.func99, rfl, by kernel_rfl, rfl, by kernel_rfl, by kernel_rfl⟩⟩
/- math/bits.TrailingZeros64 -/
def c100 : AFun := ⟨
  .seq (.ops [⟨(some 2), none, .mov (.const (.int .i64 0))⟩] [0])
  (.seq (.seq (.ops [⟨(some 3), none, .mov (.tmp 0)⟩,
      ⟨(some 4), none, .bin .eql (.tmp 3) (.const (.int .u64 0))⟩] [0, 4])
  (.cond (.tmp 4)
    (.seq (.ops [⟨(some 2), none, .mov (.const (.int .i64 64))⟩] [2])
    (.ret))
    (.skip)))
  (.seq (.ops [⟨(some 5), none, .mov (.tmp 0)⟩,
      ⟨(some 6), none, .mov (.tmp 0)⟩,
      ⟨(some 7), none, .un .neg (.tmp 6)⟩,
      ⟨(some 8), none, .bin .and (.tmp 5) (.tmp 7)⟩,
      ⟨(some 9), none, .bin .mul (.tmp 8) (.const (.int .u64 285870213051353865))⟩,
      ⟨(some 10), none, .bin .shr (.tmp 9) (.const (.int .u64 58))⟩,
      ⟨(some 11), none, .idxA 64 1 (.global 7) (.tmp 10)⟩,
      ⟨(some 12), none, .load none (.tmp 11)⟩,
      ⟨(some 13), none, .convI .i64 (.tmp 12)⟩,
      ⟨(some 2), none, .mov (.tmp 13)⟩] [2])
  (.ret))),
  14, [(2, none)], true⟩
theorem ok100 : FunOK Tryd.prog 100 c100 := ⟨⟨Tryd.f100, _, c100.code, Tryd.func100, rfl, by kernel_rfl, rfl, by kernel_rfl, by kernel_rfl⟩⟩
def fns : FuncId → Option AFun
  | 4 => some c4
  | 7 => some c7
  | 9 => some c9
  | 10 => some c10
  | 12 => some c12
  | 14 => some c14
  | 15 => some c15
  | 16 => some c16
  | 17 => some c17
  | 19 => some c19
  | 21 => some c21
  | 22 => some c22
  | 23 => some c23
  | 24 => some c24
  | 25 => some c25
  | 28 => some c28
  | 29 => some c29
  | 30 => some c30
  | 31 => some c31
  | 32 => some c32
  | 33 => some c33
  | 34 => some c34
  | 36 => some c36
  | 37 => some c37
  | 38 => some c38
  | 41 => some c41
  | 42 => some c42
  | 43 => some c43
  | 44 => some c44
  | 45 => some c45
  | 46 => some c46
  | 47 => some c47
  | 48 => some c48
  | 49 => some c49
  | 50 => some c50
  | 51 => some c51
  | 52 => some c52
  | 53 => some c53
  | 54 => some c54
  | 55 => some c55
  | 56 => some c56
  | 57 => some c57
  | 58 => some c58
  | 59 => some c59
  | 60 => some c60
  | 61 => some c61
  | 62 => some c62
  | 64 => some c64
  | 65 => some c65
  | 67 => some c67
  | 68 => some c68
  | 69 => some c69
  | 70 => some c70
  | 71 => some c71
  | 72 => some c72
  | 76 => some c76
  | 77 => some c77
  | 78 => some c78
  | 79 => some c79
  | 83 => some c83
  | 84 => some c84
  | 85 => some c85
  | 87 => some c87
  | 88 => some c88
  | 89 => some c89
  | 90 => some c90
  | 91 => some c91
  | 93 => some c93
  | 97 => some c97
  | 98 => some c98
  | 99 => some c99
  | 100 => some c100
  | _ => none
theorem fns_ok : FunsOK Tryd.prog fns := by
  intro f af h
  unfold fns at h
  split at h
  · cases h; exact ok4
  · cases h; exact ok7
  · cases h; exact ok9
  · cases h; exact ok10
  · cases h; exact ok12
  · cases h; exact ok14
  · cases h; exact ok15
  · cases h; exact ok16
  · cases h; exact ok17
  · cases h; exact ok19
  · cases h; exact ok21
  · cases h; exact ok22
  · cases h; exact ok23
  · cases h; exact ok24
  · cases h; exact ok25
  · cases h; exact ok28
  · cases h; exact ok29
  · cases h; exact ok30
  · cases h; exact ok31
  · cases h; exact ok32
  · cases h; exact ok33
  · cases h; exact ok34
  · cases h; exact ok36
  · cases h; exact ok37
  · cases h; exact ok38
  · cases h; exact ok41
  · cases h; exact ok42
  · cases h; exact ok43
  · cases h; exact ok44
  · cases h; exact ok45
  · cases h; exact ok46
  · cases h; exact ok47
  · cases h; exact ok48
  · cases h; exact ok49
  · cases h; exact ok50
  · cases h; exact ok51
  · cases h; exact ok52
  · cases h; exact ok53
  · cases h; exact ok54
  · cases h; exact ok55
  · cases h; exact ok56
  · cases h; exact ok57
  · cases h; exact ok58
  · cases h; exact ok59
  · cases h; exact ok60
  · cases h; exact ok61
  · cases h; exact ok62
  · cases h; exact ok64
  · cases h; exact ok65
  · cases h; exact ok67
  · cases h; exact ok68
  · cases h; exact ok69
  · cases h; exact ok70
  · cases h; exact ok71
  · cases h; exact ok72
  · cases h; exact ok76
  · cases h; exact ok77
  · cases h; exact ok78
  · cases h; exact ok79
  · cases h; exact ok83
  · cases h; exact ok84
  · cases h; exact ok85
  · cases h; exact ok87
  · cases h; exact ok88
  · cases h; exact ok89
  · cases h; exact ok90
  · cases h; exact ok91
  · cases h; exact ok93
  · cases h; exact ok97
  · cases h; exact ok98
  · cases h; exact ok99
  · cases h; exact ok100
  · cases h
end Go.Proofs.YteibgbbfcjgjiaaDoor
namespace Go.Proofs.YteibgbbfcjgjiaaDoor
open Go Go.Itp
set_option maxRecDepth 100000
def prims0 : List (FuncId × Prim × TypeId) := [(63, .same, 0), (75, .makeNoZero, 5), (82, .count, 0), (101, .indexByte, 0)]
theorem prims_all : AllPrims Tryd.prog prims0 :=
  ⟨⟨⟨Tryd.f63, Tryd.func63, by kernel_rfl, by kernel_rfl, by kernel_rfl, rfl⟩⟩,
   ⟨⟨Tryd.f75, Tryd.func75, by kernel_rfl, by kernel_rfl, #[3], 59, by kernel_rfl, rfl, Tryd.underlying59⟩⟩,
   ⟨⟨Tryd.f82, Tryd.func82, by kernel_rfl, by kernel_rfl, by kernel_rfl, rfl⟩⟩,
   ⟨⟨Tryd.f101, Tryd.func101, by kernel_rfl, by kernel_rfl, by kernel_rfl, rfl⟩⟩, trivial⟩
/-- what the listed variables read as, where a run may look -/
def oldT (b0 o0 u0 b1 o1 u1 : Nat) : Nat → Nat → Option Value := fun b o => match b with
  | 0 => if Nat.beq o 0 then some (.iface u0 (.pointer (some ⟨b0, o0, none⟩))) else none
  | 1 => if Nat.beq o 0 then some (.iface u1 (.pointer (some ⟨b1, o1, none⟩))) else none
  | 3 => lget (dInts (Rows.laid_internal_strconv_uint64pow10 (H := Unit))) o
  | _ => none
/-! ### the chapter's examples hold -/
theorem run_alive (b0 o0 u0 b1 o1 u1 : Nat) : runsTo true (body (callP (oldT b0 o0 u0 b1 o1 u1) many fns (primsOf prims0) 40) c15 [] St.empty) = true := by kernel_rfl
end Go.Proofs.YteibgbbfcjgjiaaDoor
namespace Go.Proofs.YteibgbbfcjgjiaaDoor
open Go Go.Itp
open Go.ChangeShapes Go.WideShapes Go.ChangeAt Go.RowKit
set_option linter.unusedVariables false
set_option maxRecDepth 100000
theorem own : ownKnob Tryd.prog.godebug = none := by kernel_rfl
theorem mixed : Tryd.prog.follows .mixedOrders = true := by kernel_rfl
def listed : List (String × DataW Unit) := [("math/bits.deBruijn32tab", Rows.laid_math_bits_deBruijn32tab), ("math/bits.deBruijn64tab", Rows.laid_math_bits_deBruijn64tab), ("internal/strconv.uint64pow10", Rows.laid_internal_strconv_uint64pow10), ("unicode/utf8.acceptRanges", Rows.laid_unicode_utf8_acceptRanges), ("strconv.ErrRange", Rows.laid_strconv_ErrRange), ("strconv.ErrSyntax", Rows.laid_strconv_ErrSyntax), ("unicode/utf8.first", Rows.laid_unicode_utf8_first)]
theorem of_laid {W : World} (h : laidMetH Tryd.prog listed W) : ∃ b0 o0 u0 b1 o1 u1, OldIs (oldT b0 o0 u0 b1 o1 u1) W := by
  rw [MakeChecks.laidMetH_plain _ _ _ (by kernel_rfl)] at h
  obtain ⟨u0, b0, o0, e0⟩ := laid_err h 5 rfl (g := 0) (by kernel_rfl) (t := 63) (by kernel_rfl) Tryd.underlying63
  obtain ⟨u1, b1, o1, e1⟩ := laid_err h 4 rfl (g := 1) (by kernel_rfl) (t := 63) (by kernel_rfl) Tryd.underlying63
  refine ⟨b0, o0, u0, b1, o1, u1, fun b o v e => ?_⟩
  unfold oldT at e
  split at e
  · split at e
    · rename_i ho
      have := Nat.eq_of_beq_eq_true ho
      subst this
      cases e
      exact ⟨e0, rfl⟩
    · cases e
  · split at e
    · rename_i ho
      have := Nat.eq_of_beq_eq_true ho
      subst this
      cases e
      exact ⟨e1, rfl⟩
    · cases e
  · exact laid_table h 2 rfl (g := 3) (by kernel_rfl) (t := 123) (by kernel_rfl) Tryd.underlying123 Tryd.underlying105 (by kernel_rfl) (by kernel_rfl) o e rfl
  · cases e
set_option maxRecDepth 100000 in
theorem listed_met (os : Os) (args : Array Value) : laidMetH Tryd.prog listed ((World.laidAll Tryd.prog os listed).forCall (fun _ _ => 0) ⟨#[], args, []⟩).memory := by
  rw [MakeChecks.laidMetH_plain _ _ _ (by kernel_rfl)]
  exact laidMet_laidAll _ (by kernel_rfl) (by kernel_rfl)
theorem listed_shaped (os : Os) : (World.laidAll Tryd.prog os listed).Shaped Tryd.prog := World.shaped_of_ZipB (by kernel_rfl) (by kernel_rfl)
/-! ### the chapter's examples hold -/
def known : List (FuncId × List Value × Bool) := [(15, [], true)]
theorem has_alive : ∃ fn c, Tryd.prog.funcs[(15 : Nat)]? = some fn ∧ fn.body = some c ∧ (fn.name == "runtime.NumGoroutine") = false := ⟨Tryd.f15, _, Tryd.func15, rfl, by kernel_rfl⟩
theorem known_ok (b0 o0 u0 b1 o1 u1 : Nat) : Answers Tryd.prog (oldT b0 o0 u0 b1 o1 u1) known :=
  ⟨answer_of mixed fns_ok (fun w _ => primsOf_ok prims0 prims_all w) (f := 15) (af := c15) rfl rfl (run_alive b0 o0 u0 b1 o1 u1), has_alive, trivial⟩
abbrev EN (w : World) (n : Nat) : Env := callP (oldOf w) many fns (primT known) n
abbrev vI : Int → Value := .int .i64
/-- what a law's run returns, its call returns -/
theorem law_of {W : World} (h : laidMetH Tryd.prog listed W) {f : FuncId} {af : AFun} (hf : fns f = some af) {xs : List Value} (hxs : idsL 0 xs = []) (n : Nat) {v : Value} {s' : St} (hb : body (EN W n) af xs St.empty = some (v, s')) (hv : ids 0 v = []) :
    Calls Tryd.prog f xs.toArray W fun e w' => e = .returned v ∧ Below W.heap.size W w' := by
  obtain ⟨b0, o0, u0, b1, o1, u1, ho⟩ := of_laid h
  exact law_at mixed fns_ok (oldOf_ok W) (primT_ok ho known (known_ok ..)) hf hxs n hb hv
end Go.Proofs.YteibgbbfcjgjiaaDoor
