/- What is proved: the law WarpTurned returns true for every input. Conditions: none beyond the card's own.
   Texts: C22W, R22W, H22W, D22a, D22b, D22c, D22d, D22e, D22f, D22g, D22h, D22j, D22t.
-/
import Derived.Test.YtgglaaldlegckaaDoorPart4
import Derived.Test.YtgglaaldlegckaaDoorProg
import Derived.KernelRfl
import Derived.Test.YtgglaaldlegckaaDoorCards
import Derived.Test.YtgglaaldlegckaaDoorTie
import Derived.SizedLaws
import Derived.ChangeAt
import Derived.SevenTiedAt
import Derived.Stop.Joined
import Derived.Lay
/- The seat's functions as the interpreter runs them: written by a program out of the loaded form, and shown equal to it below. -/
namespace Go.Proofs.YtgglaaldlegckaaDoor
open Go Go.Itp
set_option maxRecDepth 100000
/- raddle/raddlelaw22.WarpWound -/
def c4l0 : AC :=
  .seq (.seq (.ops [⟨(some 50), none, .mov (.tmp 8)⟩,
          ⟨(some 51), none, .mov (.tmp 0)⟩,
          ⟨(some 52), none, .len false (.tmp 51)⟩,
          ⟨(some 53), none, .bin .leq (.tmp 50) (.tmp 52)⟩] [0, 1, 5, 6, 8, 53])
      (.cond (.tmp 53)
        (.skip)
        (.exit 0)))
      (.seq (.block 1
        (.seq (.ops [⟨(some 57), none, .mov (.tmp 0)⟩,
            ⟨(some 58), none, .mov (.tmp 8)⟩,
            ⟨(some 59), none, .mov (.tmp 1)⟩,
            ⟨(some 60), none, .callF 25 [(.tmp 57), (.tmp 58), (.tmp 59)]⟩,
            ⟨(some 56), none, .mov (.tmp 60)⟩,
            ⟨(some 61), none, .ext (.tmp 56) 0⟩,
            ⟨(some 62), none, .ext (.tmp 56) 1⟩,
            ⟨(some 9), none, .mov (.tmp 61)⟩,
            ⟨(some 10), none, .mov (.tmp 62)⟩] [0, 1, 5, 6, 8, 9, 10])
        (.seq (.seq (.ops [⟨(some 63), none, .mov (.tmp 10)⟩,
            ⟨(some 64), none, .bin .neq (.tmp 63) (.const (.int .i64 0))⟩] [0, 1, 5, 6, 8, 9, 10, 64])
        (.cond (.tmp 64)
          (.seq (.seq (.ops [⟨(some 65), none, .mov (.tmp 8)⟩,
              ⟨(some 66), none, .mov (.tmp 6)⟩,
              ⟨(some 67), none, .len false (.tmp 66)⟩,
              ⟨(some 68), none, .bin .eql (.tmp 65) (.tmp 67)⟩,
              ⟨(some 69), none, .mov (.tmp 68)⟩,
              ⟨(some 70), (some (69, false)), .mov (.tmp 10)⟩,
              ⟨(some 71), (some (69, false)), .bin .eql (.tmp 70) (.const (.int .i64 26))⟩,
              ⟨(some 72), (some (69, false)), .mov (.tmp 71)⟩,
              ⟨(some 73), (some (72, true)), .mov (.tmp 0)⟩,
              ⟨(some 74), (some (72, true)), .len false (.tmp 73)⟩,
              ⟨(some 75), (some (72, true)), .mov (.tmp 8)⟩,
              ⟨(some 76), (some (72, true)), .bin .rem (.tmp 74) (.tmp 75)⟩,
              ⟨(some 77), (some (72, true)), .bin .eql (.tmp 76) (.const (.int .i64 0))⟩,
              ⟨(some 78), (some (69, false)), .pick (.tmp 72) (.tmp 77) (.const (.bool false))⟩,
              ⟨(some 79), none, .pick (.tmp 69) (.const (.bool true)) (.tmp 78)⟩] [0, 1, 5, 6, 8, 79])
          (.cond (.tmp 79)
            (.seq (.ops [⟨(some 4), none, .mov (.const (.bool false))⟩] [4])
            (.ret))
            (.skip)))
          (.exit 1))
          (.skip)))
        (.seq (.ops [⟨(some 81), none, .mov (.tmp 9)⟩,
            ⟨(some 82), none, .mov (.tmp 0)⟩,
            ⟨(some 83), none, .len false (.tmp 82)⟩,
            ⟨(some 84), none, .mov (.tmp 8)⟩,
            ⟨(some 85), none, .bin .quo (.tmp 83) (.tmp 84)⟩,
            ⟨(some 86), none, .mov (.tmp 1)⟩,
            ⟨(some 87), none, .callF 26 [(.tmp 81), (.tmp 85), (.tmp 86)]⟩,
            ⟨(some 80), none, .mov (.tmp 87)⟩,
            ⟨(some 88), none, .ext (.tmp 80) 0⟩,
            ⟨(some 89), none, .ext (.tmp 80) 1⟩,
            ⟨(some 11), none, .mov (.tmp 88)⟩,
            ⟨(some 12), none, .mov (.tmp 89)⟩] [0, 1, 5, 6, 8, 9, 11, 12])
        (.seq (.ops [⟨(some 90), none, .mov (.tmp 8)⟩,
            ⟨(some 91), none, .mov (.tmp 6)⟩,
            ⟨(some 92), none, .len false (.tmp 91)⟩,
            ⟨(some 93), none, .bin .lss (.tmp 90) (.tmp 92)⟩,
            ⟨(some 94), none, .mov (.tmp 93)⟩,
            ⟨(some 95), (some (94, false)), .mov (.tmp 9)⟩,
            ⟨(some 96), (some (94, false)), .len false (.tmp 95)⟩,
            ⟨(some 97), (some (94, false)), .mov (.tmp 8)⟩,
            ⟨(some 98), (some (94, false)), .bin .neq (.tmp 96) (.tmp 97)⟩,
            ⟨(some 99), none, .pick (.tmp 94) (.const (.bool true)) (.tmp 98)⟩,
            ⟨(some 100), none, .mov (.tmp 99)⟩,
            ⟨(some 101), (some (100, false)), .mov (.tmp 12)⟩,
            ⟨(some 102), (some (100, false)), .bin .neq (.tmp 101) (.const (.int .i64 0))⟩,
            ⟨(some 103), none, .pick (.tmp 100) (.const (.bool true)) (.tmp 102)⟩,
            ⟨(some 104), none, .mov (.tmp 103)⟩,
            ⟨(some 105), (some (104, false)), .mov (.tmp 11)⟩,
            ⟨(some 106), (some (104, false)), .mov (.tmp 0)⟩,
            ⟨(some 107), (some (104, false)), .callF 21 [(.tmp 105), (.tmp 106)]⟩,
            ⟨(some 108), (some (104, false)), .un .not (.tmp 107)⟩,
            ⟨(some 109), none, .pick (.tmp 104) (.const (.bool true)) (.tmp 108)⟩,
            ⟨(some 110), none, .mov (.tmp 109)⟩,
            ⟨(some 111), (some (110, false)), .mov (.tmp 8)⟩,
            ⟨(some 112), (some (110, false)), .mov (.tmp 6)⟩,
            ⟨(some 113), (some (110, false)), .len false (.tmp 112)⟩,
            ⟨(some 114), (some (110, false)), .bin .eql (.tmp 111) (.tmp 113)⟩,
            ⟨(some 115), (some (110, false)), .mov (.tmp 114)⟩,
            ⟨(some 116), (some (115, true)), .mov (.tmp 6)⟩,
            ⟨(some 117), (some (115, true)), .mov (.tmp 9)⟩,
            ⟨(some 118), (some (115, true)), .callF 21 [(.tmp 116), (.tmp 117)]⟩,
            ⟨(some 119), (some (115, true)), .un .not (.tmp 118)⟩,
            ⟨(some 120), (some (110, false)), .pick (.tmp 115) (.tmp 119) (.const (.bool false))⟩,
            ⟨(some 121), none, .pick (.tmp 110) (.const (.bool true)) (.tmp 120)⟩] [0, 1, 5, 6, 8, 121])
        (.cond (.tmp 121)
          (.seq (.ops [⟨(some 4), none, .mov (.const (.bool false))⟩] [4])
          (.ret))
          (.skip)))))))
      (.ops [⟨(some 54), none, .mov (.tmp 8)⟩,
          ⟨(some 55), none, .bin .add (.tmp 54) (.const (.int .i64 1))⟩,
          ⟨(some 8), none, .mov (.tmp 55)⟩] [0, 1, 5, 6, 8]))
def c4 : AFun := ⟨
  .seq (.ops [⟨(some 4), none, .mov (.const (.bool false))⟩] [0, 1])
  (.seq (.ops [⟨(some 13), none, .callF 22 []⟩,
      ⟨(some 5), none, .mov (.tmp 13)⟩] [0, 1, 5])
  (.seq (.seq (.ops [⟨(some 14), none, .mov (.tmp 0)⟩,
      ⟨(some 15), none, .callF 23 [(.tmp 14)]⟩,
      ⟨(some 16), none, .un .not (.tmp 15)⟩,
      ⟨(some 17), none, .mov (.tmp 16)⟩,
      ⟨(some 18), (some (17, false)), .mov (.tmp 5)⟩,
      ⟨(some 19), (some (17, false)), .un .not (.tmp 18)⟩,
      ⟨(some 20), none, .pick (.tmp 17) (.const (.bool true)) (.tmp 19)⟩] [0, 1, 5, 20])
  (.cond (.tmp 20)
    (.seq (.ops [⟨(some 21), none, .mov (.tmp 5)⟩,
        ⟨(some 4), none, .mov (.tmp 21)⟩] [4])
    (.ret))
    (.skip)))
  (.seq (.ops [⟨(some 23), none, .mov (.tmp 0)⟩,
      ⟨(some 24), none, .mov (.tmp 1)⟩,
      ⟨(some 25), none, .callF 24 [(.tmp 23), (.tmp 24)]⟩,
      ⟨(some 22), none, .mov (.tmp 25)⟩,
      ⟨(some 26), none, .ext (.tmp 22) 0⟩,
      ⟨(some 27), none, .ext (.tmp 22) 1⟩,
      ⟨(some 6), none, .mov (.tmp 26)⟩,
      ⟨(some 7), none, .mov (.tmp 27)⟩] [0, 1, 5, 6, 7])
  (.seq (.seq (.ops [⟨(some 28), none, .mov (.tmp 7)⟩,
      ⟨(some 29), none, .bin .neq (.tmp 28) (.const (.int .i64 0))⟩] [0, 1, 5, 6, 7, 29])
  (.cond (.tmp 29)
    (.seq (.ops [⟨(some 30), none, .mov (.tmp 5)⟩,
        ⟨(some 31), none, .mov (.tmp 30)⟩,
        ⟨(some 32), (some (31, true)), .mov (.tmp 7)⟩,
        ⟨(some 33), (some (31, true)), .bin .eql (.tmp 32) (.const (.int .i64 6))⟩,
        ⟨(some 34), none, .pick (.tmp 31) (.tmp 33) (.const (.bool false))⟩,
        ⟨(some 35), none, .mov (.tmp 34)⟩,
        ⟨(some 36), (some (35, true)), .mov (.tmp 0)⟩,
        ⟨(some 37), (some (35, true)), .len false (.tmp 36)⟩,
        ⟨(some 38), (some (35, true)), .bin .eql (.tmp 37) (.const (.int .i64 0))⟩,
        ⟨(some 39), none, .pick (.tmp 35) (.tmp 38) (.const (.bool false))⟩,
        ⟨(some 4), none, .mov (.tmp 39)⟩] [4])
    (.ret))
    (.skip)))
  (.seq (.seq (.ops [⟨(some 40), none, .mov (.tmp 6)⟩,
      ⟨(some 41), none, .len false (.tmp 40)⟩,
      ⟨(some 42), none, .bin .lss (.tmp 41) (.const (.int .i64 1))⟩,
      ⟨(some 43), none, .mov (.tmp 42)⟩,
      ⟨(some 44), (some (43, false)), .mov (.tmp 6)⟩,
      ⟨(some 45), (some (43, false)), .len false (.tmp 44)⟩,
      ⟨(some 46), (some (43, false)), .mov (.tmp 0)⟩,
      ⟨(some 47), (some (43, false)), .len false (.tmp 46)⟩,
      ⟨(some 48), (some (43, false)), .bin .gtr (.tmp 45) (.tmp 47)⟩,
      ⟨(some 49), none, .pick (.tmp 43) (.const (.bool true)) (.tmp 48)⟩] [0, 1, 5, 6, 49])
  (.cond (.tmp 49)
    (.seq (.ops [⟨(some 4), none, .mov (.const (.bool false))⟩] [4])
    (.ret))
    (.skip)))
  (.seq (.seq (.ops [⟨(some 8), none, .mov (.const (.int .i64 1))⟩] [0, 1, 5, 6, 8])
  (.block 0
    (.loop [0, 1, 5, 6, 8]
      c4l0)))
  (.seq (.ops [⟨(some 122), none, .mov (.tmp 5)⟩,
      ⟨(some 4), none, .mov (.tmp 122)⟩] [4])
  (.ret)))))))),
  123, [(4, none)], true⟩
theorem ok4 : FunOK Tryd.prog 4 c4 := ⟨⟨Tryd.f4, _, c4.code, Tryd.func4, rfl, by kernel_rfl, rfl, by kernel_rfl, by kernel_rfl⟩⟩
/- raddle/raddlelaw22.WarpTurned -/
def c5l0 : AC :=
  .seq (.seq (.ops [⟨(some 161), none, .mov (.tmp 15)⟩,
          ⟨(some 162), none, .mov (.tmp 12)⟩,
          ⟨(some 163), none, .len false (.tmp 162)⟩,
          ⟨(some 164), none, .bin .lss (.tmp 161) (.tmp 163)⟩] [0, 5, 12, 15, 164])
      (.cond (.tmp 164)
        (.skip)
        (.exit 4)))
      (.seq (.block 5
        (.seq (.draw [⟨(some 167), none, .mov (.tmp 12)⟩,
            ⟨(some 168), none, .mov (.tmp 15)⟩,
            ⟨(some 169), none, .idxS 1 (.tmp 167) (.tmp 168)⟩,
            ⟨(some 170), none, .load none (.tmp 169)⟩,
            ⟨(some 171), none, .mov (.tmp 0)⟩,
            ⟨(some 172), none, .mov (.tmp 15)⟩,
            ⟨(some 173), none, .mov (.tmp 0)⟩,
            ⟨(some 174), none, .len false (.tmp 173)⟩,
            ⟨(some 175), none, .bin .rem (.tmp 172) (.tmp 174)⟩,
            ⟨(some 176), none, .idxS 1 (.tmp 171) (.tmp 175)⟩,
            ⟨(some 177), none, .load none (.tmp 176)⟩] [⟨(some 178), none, .bin .neq (.tmp 170) (.tmp 177)⟩] [[], [], [], [], [], [], [], [], [], [], []] [0, 5, 12, 15, 178])
        (.cond (.tmp 178)
          (.seq (.ops [⟨(some 4), none, .mov (.const (.bool false))⟩] [4])
          (.ret))
          (.skip))))
      (.ops [⟨(some 165), none, .mov (.tmp 15)⟩,
          ⟨(some 166), none, .bin .add (.tmp 165) (.const (.int .i64 1))⟩,
          ⟨(some 15), none, .mov (.tmp 166)⟩] [0, 5, 12, 15]))
def c5l1 : AC :=
  .seq (.seq (.ops [⟨(some 113), none, .mov (.tmp 14)⟩,
          ⟨(some 114), none, .mov (.tmp 8)⟩,
          ⟨(some 115), none, .len false (.tmp 114)⟩,
          ⟨(some 116), none, .bin .lss (.tmp 113) (.tmp 115)⟩] [0, 5, 8, 10, 12, 14, 116])
      (.cond (.tmp 116)
        (.skip)
        (.exit 2)))
      (.seq (.block 3
        (.seq (.draw [⟨(some 119), none, .mov (.tmp 8)⟩,
            ⟨(some 120), none, .mov (.tmp 14)⟩,
            ⟨(some 121), none, .idxS 1 (.tmp 119) (.tmp 120)⟩,
            ⟨(some 122), none, .load none (.tmp 121)⟩,
            ⟨(some 123), none, .mov (.tmp 8)⟩,
            ⟨(some 124), none, .mov (.tmp 8)⟩,
            ⟨(some 125), none, .len false (.tmp 124)⟩,
            ⟨(some 126), none, .bin .sub (.tmp 125) (.const (.int .i64 1))⟩,
            ⟨(some 127), none, .mov (.tmp 14)⟩,
            ⟨(some 128), none, .bin .sub (.tmp 126) (.tmp 127)⟩,
            ⟨(some 129), none, .idxS 1 (.tmp 123) (.tmp 128)⟩,
            ⟨(some 130), none, .load none (.tmp 129)⟩,
            ⟨(some 131), none, .bin .neq (.tmp 122) (.tmp 130)⟩,
            ⟨(some 132), none, .mov (.tmp 131)⟩,
            ⟨(some 133), (some (132, false)), .mov (.tmp 10)⟩,
            ⟨(some 134), (some (132, false)), .mov (.tmp 14)⟩,
            ⟨(some 135), (some (132, false)), .idxS 1 (.tmp 133) (.tmp 134)⟩,
            ⟨(some 136), (some (132, false)), .load none (.tmp 135)⟩,
            ⟨(some 137), (some (132, false)), .mov (.tmp 10)⟩,
            ⟨(some 138), (some (132, false)), .mov (.tmp 10)⟩,
            ⟨(some 139), (some (132, false)), .len false (.tmp 138)⟩,
            ⟨(some 140), (some (132, false)), .bin .sub (.tmp 139) (.const (.int .i64 1))⟩,
            ⟨(some 141), (some (132, false)), .mov (.tmp 14)⟩,
            ⟨(some 142), (some (132, false)), .bin .sub (.tmp 140) (.tmp 141)⟩,
            ⟨(some 143), (some (132, false)), .idxS 1 (.tmp 137) (.tmp 142)⟩,
            ⟨(some 144), (some (132, false)), .load none (.tmp 143)⟩,
            ⟨(some 145), (some (132, false)), .bin .neq (.tmp 136) (.tmp 144)⟩,
            ⟨(some 146), none, .pick (.tmp 132) (.const (.bool true)) (.tmp 145)⟩,
            ⟨(some 147), none, .mov (.tmp 146)⟩,
            ⟨(some 148), (some (147, false)), .mov (.tmp 8)⟩,
            ⟨(some 149), (some (147, false)), .mov (.tmp 14)⟩,
            ⟨(some 150), (some (147, false)), .idxS 1 (.tmp 148) (.tmp 149)⟩,
            ⟨(some 151), (some (147, false)), .load none (.tmp 150)⟩,
            ⟨(some 152), (some (147, false)), .mov (.tmp 0)⟩,
            ⟨(some 153), (some (147, false)), .mov (.tmp 14)⟩,
            ⟨(some 154), (some (147, false)), .mov (.tmp 0)⟩,
            ⟨(some 155), (some (147, false)), .len false (.tmp 154)⟩,
            ⟨(some 156), (some (147, false)), .callF 27 [(.tmp 153), (.tmp 155), (.const (.bool true))]⟩,
            ⟨(some 157), (some (147, false)), .idxS 1 (.tmp 152) (.tmp 156)⟩,
            ⟨(some 158), (some (147, false)), .load none (.tmp 157)⟩] [⟨(some 159), (some (147, false)), .bin .neq (.tmp 151) (.tmp 158)⟩,
            ⟨(some 160), none, .pick (.tmp 147) (.const (.bool true)) (.tmp 159)⟩] [[], [], [], [], [], [], [], [], [], [], [], [], [], [], [], [], [], [], [], [], [], [], [], [], [], [], [], [], [], [], [], [], [], [], [], [], [], [], [], []] [0, 5, 8, 10, 12, 14, 160])
        (.cond (.tmp 160)
          (.seq (.ops [⟨(some 4), none, .mov (.const (.bool false))⟩] [4])
          (.ret))
          (.skip))))
      (.ops [⟨(some 117), none, .mov (.tmp 14)⟩,
          ⟨(some 118), none, .bin .add (.tmp 117) (.const (.int .i64 1))⟩,
          ⟨(some 14), none, .mov (.tmp 118)⟩] [0, 5, 8, 10, 12, 14]))
def c5l2 : AC :=
  .seq (.seq (.ops [⟨(some 46), none, .mov (.tmp 7)⟩,
          ⟨(some 47), none, .bin .geq (.tmp 46) (.const (.int .i64 0))⟩] [0, 1, 5, 6, 7, 47])
      (.cond (.tmp 47)
        (.skip)
        (.exit 0)))
      (.seq (.block 1
        (.ops [⟨(some 50), none, .mov (.tmp 6)⟩,
            ⟨(some 51), none, .mov (.tmp 0)⟩,
            ⟨(some 52), none, .mov (.tmp 7)⟩,
            ⟨(some 53), none, .idxS 1 (.tmp 51) (.tmp 52)⟩,
            ⟨(some 54), none, .load none (.tmp 53)⟩,
            ⟨(some 55), none, .mkRow 3 1 1 [(.int .i64 0)] [(0, 1, (.tmp 54))]⟩,
            ⟨(some 56), none, .app 3 1 8 (.tmp 50) (.tmp 55)⟩,
            ⟨(some 6), none, .mov (.tmp 56)⟩] [0, 1, 5, 6, 7]))
      (.ops [⟨(some 48), none, .mov (.tmp 7)⟩,
          ⟨(some 49), none, .bin .sub (.tmp 48) (.const (.int .i64 1))⟩,
          ⟨(some 7), none, .mov (.tmp 49)⟩] [0, 1, 5, 6, 7]))
def c5 : AFun := ⟨
  .seq (.ops [⟨(some 4), none, .mov (.const (.bool false))⟩] [0, 1])
  (.seq (.ops [⟨(some 16), none, .callF 22 []⟩,
      ⟨(some 5), none, .mov (.tmp 16)⟩] [0, 1, 5])
  (.seq (.seq (.ops [⟨(some 17), none, .mov (.tmp 0)⟩,
      ⟨(some 18), none, .len false (.tmp 17)⟩,
      ⟨(some 19), none, .bin .eql (.tmp 18) (.const (.int .i64 0))⟩,
      ⟨(some 20), none, .mov (.tmp 19)⟩,
      ⟨(some 21), (some (20, false)), .mov (.tmp 0)⟩,
      ⟨(some 22), (some (20, false)), .len false (.tmp 21)⟩,
      ⟨(some 23), (some (20, false)), .bin .gtr (.tmp 22) (.const (.int .i64 20))⟩,
      ⟨(some 24), none, .pick (.tmp 20) (.const (.bool true)) (.tmp 23)⟩,
      ⟨(some 25), none, .mov (.tmp 24)⟩,
      ⟨(some 26), (some (25, false)), .mov (.tmp 0)⟩,
      ⟨(some 27), (some (25, false)), .callF 15 [(.tmp 26)]⟩,
      ⟨(some 28), (some (25, false)), .bin .neq (.tmp 27) (.const (.int .i64 0))⟩,
      ⟨(some 29), none, .pick (.tmp 25) (.const (.bool true)) (.tmp 28)⟩,
      ⟨(some 30), none, .mov (.tmp 29)⟩,
      ⟨(some 31), (some (30, false)), .mov (.tmp 1)⟩,
      ⟨(some 32), (some (30, false)), .bin .lss (.tmp 31) (.const (.int .i64 0))⟩,
      ⟨(some 33), none, .pick (.tmp 30) (.const (.bool true)) (.tmp 32)⟩,
      ⟨(some 34), none, .mov (.tmp 33)⟩,
      ⟨(some 35), (some (34, false)), .mov (.tmp 1)⟩,
      ⟨(some 36), (some (34, false)), .bin .gtr (.tmp 35) (.const (.int .i64 20))⟩,
      ⟨(some 37), none, .pick (.tmp 34) (.const (.bool true)) (.tmp 36)⟩,
      ⟨(some 38), none, .mov (.tmp 37)⟩,
      ⟨(some 39), (some (38, false)), .mov (.tmp 5)⟩,
      ⟨(some 40), (some (38, false)), .un .not (.tmp 39)⟩,
      ⟨(some 41), none, .pick (.tmp 38) (.const (.bool true)) (.tmp 40)⟩] [0, 1, 5, 41])
  (.cond (.tmp 41)
    (.seq (.ops [⟨(some 42), none, .mov (.tmp 5)⟩,
        ⟨(some 4), none, .mov (.tmp 42)⟩] [4])
    (.ret))
    (.skip)))
  (.seq (.ops [⟨(some 6), none, .mov (.const (.slice none 0 0))⟩] [0, 1, 5, 6])
  (.seq (.seq (.ops [⟨(some 43), none, .mov (.tmp 0)⟩,
      ⟨(some 44), none, .len false (.tmp 43)⟩,
      ⟨(some 45), none, .bin .sub (.tmp 44) (.const (.int .i64 1))⟩,
      ⟨(some 7), none, .mov (.tmp 45)⟩] [0, 1, 5, 6, 7])
  (.block 0
    (.loop [0, 1, 5, 6, 7]
      c5l2)))
  (.seq (.ops [⟨(some 58), none, .mov (.tmp 0)⟩,
      ⟨(some 59), none, .mov (.tmp 1)⟩,
      ⟨(some 60), none, .bin .mul (.const (.int .i64 2)) (.tmp 59)⟩,
      ⟨(some 61), none, .callF 26 [(.tmp 58), (.tmp 60), (.const (.bool true))]⟩,
      ⟨(some 57), none, .mov (.tmp 61)⟩,
      ⟨(some 62), none, .ext (.tmp 57) 0⟩,
      ⟨(some 63), none, .ext (.tmp 57) 1⟩,
      ⟨(some 8), none, .mov (.tmp 62)⟩,
      ⟨(some 9), none, .mov (.tmp 63)⟩] [0, 1, 5, 6, 8, 9])
  (.seq (.ops [⟨(some 65), none, .mov (.tmp 6)⟩,
      ⟨(some 66), none, .mov (.tmp 1)⟩,
      ⟨(some 67), none, .bin .mul (.const (.int .i64 2)) (.tmp 66)⟩,
      ⟨(some 68), none, .callF 26 [(.tmp 65), (.tmp 67), (.const (.bool true))]⟩,
      ⟨(some 64), none, .mov (.tmp 68)⟩,
      ⟨(some 69), none, .ext (.tmp 64) 0⟩,
      ⟨(some 70), none, .ext (.tmp 64) 1⟩,
      ⟨(some 10), none, .mov (.tmp 69)⟩,
      ⟨(some 11), none, .mov (.tmp 70)⟩] [0, 1, 5, 8, 9, 10, 11])
  (.seq (.ops [⟨(some 72), none, .mov (.tmp 0)⟩,
      ⟨(some 73), none, .mov (.tmp 1)⟩,
      ⟨(some 74), none, .callF 26 [(.tmp 72), (.tmp 73), (.const (.bool false))]⟩,
      ⟨(some 71), none, .mov (.tmp 74)⟩,
      ⟨(some 75), none, .ext (.tmp 71) 0⟩,
      ⟨(some 76), none, .ext (.tmp 71) 1⟩,
      ⟨(some 12), none, .mov (.tmp 75)⟩,
      ⟨(some 13), none, .mov (.tmp 76)⟩] [0, 1, 5, 8, 9, 10, 11, 12, 13])
  (.seq (.seq (.ops [⟨(some 77), none, .mov (.tmp 9)⟩,
      ⟨(some 78), none, .bin .neq (.tmp 77) (.const (.int .i64 0))⟩,
      ⟨(some 79), none, .mov (.tmp 78)⟩,
      ⟨(some 80), (some (79, false)), .mov (.tmp 11)⟩,
      ⟨(some 81), (some (79, false)), .bin .neq (.tmp 80) (.const (.int .i64 0))⟩,
      ⟨(some 82), none, .pick (.tmp 79) (.const (.bool true)) (.tmp 81)⟩,
      ⟨(some 83), none, .mov (.tmp 82)⟩,
      ⟨(some 84), (some (83, false)), .mov (.tmp 13)⟩,
      ⟨(some 85), (some (83, false)), .bin .neq (.tmp 84) (.const (.int .i64 0))⟩,
      ⟨(some 86), none, .pick (.tmp 83) (.const (.bool true)) (.tmp 85)⟩,
      ⟨(some 87), none, .mov (.tmp 86)⟩,
      ⟨(some 88), (some (87, false)), .mov (.tmp 8)⟩,
      ⟨(some 89), (some (87, false)), .len false (.tmp 88)⟩,
      ⟨(some 90), (some (87, false)), .mov (.tmp 1)⟩,
      ⟨(some 91), (some (87, false)), .bin .mul (.const (.int .i64 2)) (.tmp 90)⟩,
      ⟨(some 92), (some (87, false)), .mov (.tmp 0)⟩,
      ⟨(some 93), (some (87, false)), .len false (.tmp 92)⟩,
      ⟨(some 94), (some (87, false)), .bin .mul (.tmp 91) (.tmp 93)⟩,
      ⟨(some 95), (some (87, false)), .bin .neq (.tmp 89) (.tmp 94)⟩,
      ⟨(some 96), none, .pick (.tmp 87) (.const (.bool true)) (.tmp 95)⟩,
      ⟨(some 97), none, .mov (.tmp 96)⟩,
      ⟨(some 98), (some (97, false)), .mov (.tmp 10)⟩,
      ⟨(some 99), (some (97, false)), .len false (.tmp 98)⟩,
      ⟨(some 100), (some (97, false)), .mov (.tmp 8)⟩,
      ⟨(some 101), (some (97, false)), .len false (.tmp 100)⟩,
      ⟨(some 102), (some (97, false)), .bin .neq (.tmp 99) (.tmp 101)⟩,
      ⟨(some 103), none, .pick (.tmp 97) (.const (.bool true)) (.tmp 102)⟩,
      ⟨(some 104), none, .mov (.tmp 103)⟩,
      ⟨(some 105), (some (104, false)), .mov (.tmp 12)⟩,
      ⟨(some 106), (some (104, false)), .len false (.tmp 105)⟩,
      ⟨(some 107), (some (104, false)), .mov (.tmp 1)⟩,
      ⟨(some 108), (some (104, false)), .mov (.tmp 0)⟩,
      ⟨(some 109), (some (104, false)), .len false (.tmp 108)⟩,
      ⟨(some 110), (some (104, false)), .bin .mul (.tmp 107) (.tmp 109)⟩,
      ⟨(some 111), (some (104, false)), .bin .neq (.tmp 106) (.tmp 110)⟩,
      ⟨(some 112), none, .pick (.tmp 104) (.const (.bool true)) (.tmp 111)⟩] [0, 5, 8, 10, 12, 112])
  (.cond (.tmp 112)
    (.seq (.ops [⟨(some 4), none, .mov (.const (.bool false))⟩] [4])
    (.ret))
    (.skip)))
  (.seq (.seq (.ops [⟨(some 14), none, .mov (.const (.int .i64 0))⟩] [0, 5, 8, 10, 12, 14])
  (.block 2
    (.loop [0, 5, 8, 10, 12, 14]
      c5l1)))
  (.seq (.seq (.ops [⟨(some 15), none, .mov (.const (.int .i64 0))⟩] [0, 5, 12, 15])
  (.block 4
    (.loop [0, 5, 12, 15]
      c5l0)))
  (.seq (.ops [⟨(some 179), none, .mov (.tmp 5)⟩,
      ⟨(some 4), none, .mov (.tmp 179)⟩] [4])
  (.ret)))))))))))),
  180, [(4, none)], true⟩
theorem ok5 : FunOK Tryd.prog 5 c5 := ⟨⟨Tryd.f5, _, c5.code, Tryd.func5, rfl, by kernel_rfl, rfl, by kernel_rfl, by kernel_rfl⟩⟩
/- raddle/warp.Runs -/
def c10 : AFun := ⟨
  .seq (.ops [⟨(some 2), none, .mov (.const (.slice none 0 0))⟩,
      ⟨(some 3), none, .mov (.const (.int .i64 0))⟩] [0])
  (.seq (.seq (.ops [⟨(some 5), none, .mov (.tmp 0)⟩,
      ⟨(some 6), none, .callF 14 [(.tmp 5)]⟩,
      ⟨(some 4), none, .mov (.tmp 6)⟩] [0, 4])
  (.seq (.ops [⟨(some 7), none, .mov (.tmp 4)⟩,
      ⟨(some 8), none, .bin .neq (.tmp 7) (.const (.int .i64 0))⟩] [0, 4, 8])
  (.cond (.tmp 8)
    (.seq (.ops [⟨(some 9), none, .mov (.tmp 4)⟩,
        ⟨(some 2), none, .mov (.const (.slice none 0 0))⟩,
        ⟨(some 3), none, .mov (.tmp 9)⟩] [2, 3])
    (.ret))
    (.skip))))
  (.seq (.ops [⟨(some 10), none, .mov (.tmp 0)⟩,
      ⟨(some 11), none, .callF 33 [(.tmp 10)]⟩,
      ⟨(some 12), none, .callF 32 [(.tmp 11)]⟩,
      ⟨(some 2), none, .mov (.tmp 12)⟩,
      ⟨(some 3), none, .mov (.const (.int .i64 0))⟩] [2, 3])
  (.ret))),
  13, [(2, none), (3, none)], true⟩
theorem ok10 : FunOK Tryd.prog 10 c10 := ⟨⟨Tryd.f10, _, c10.code, Tryd.func10, rfl, by kernel_rfl, rfl, by kernel_rfl, by kernel_rfl⟩⟩
/- raddle/warp.Text -/
def c12 : AFun := ⟨
  .seq (.ops [⟨(some 2), none, .mov (.const (.string ⟨#[]⟩))⟩,
      ⟨(some 3), none, .mov (.const (.int .i64 0))⟩] [0, 2, 3])
  (.seq (.seq (.ops [⟨(some 8), none, .mov (.tmp 0)⟩,
      ⟨(some 9), none, .callF 14 [(.tmp 8)]⟩,
      ⟨(some 4), none, .mov (.tmp 9)⟩] [0, 2, 3, 4])
  (.seq (.ops [⟨(some 10), none, .mov (.tmp 4)⟩,
      ⟨(some 11), none, .bin .neq (.tmp 10) (.const (.int .i64 0))⟩] [0, 2, 3, 4, 11])
  (.cond (.tmp 11)
    (.seq (.ops [⟨(some 12), none, .mov (.tmp 4)⟩,
        ⟨(some 2), none, .mov (.const (.string ⟨#[]⟩))⟩,
        ⟨(some 3), none, .mov (.tmp 12)⟩] [2, 3])
    (.ret))
    (.skip))))
  (.seq (.ops [⟨(some 5), none, .alloc 66 [(1, (.pointer none)), (1, (.slice none 0 0))]⟩] [0, 2, 3, 5])
  (.seq (.ops [⟨(some 13), none, .mkFn 34 [(.tmp 5)] []⟩,
      ⟨(some 6), none, .alloc 67 [(1, .nilFunc)]⟩,
      ⟨none, none, .store 1 (.tmp 6) (.tmp 13)⟩] [0, 2, 3, 5, 6])
  (.seq (.seq (.ops [⟨(some 14), none, .mov (.tmp 0)⟩,
      ⟨(some 15), none, .callF 33 [(.tmp 14)]⟩] [2, 3, 5, 6, 15])
  (.block 0
    (.rangeF (.tmp 15) [16] [2, 3, 5, 6]
      (.ops [⟨(some 7), none, .alloc 58 [(2, (.int .i64 0))]⟩,
          ⟨none, none, .store 2 (.tmp 7) (.tmp 16)⟩] [5, 6, 7])
      (.block 1
        (.seq (.seq (.ops [⟨(some 17), none, .callF 35 [(.tmp 5)]⟩,
            ⟨(some 18), none, .bin .gtr (.tmp 17) (.const (.int .i64 0))⟩] [6, 7, 18])
        (.cond (.tmp 18)
          (.ops [⟨(some 19), none, .load none (.tmp 6)⟩,
              ⟨(some 20), none, .callV (.tmp 19) [(.const (.string ⟨#[32]⟩))]⟩] [6, 7])
          (.skip)))
        (.draw [⟨(some 21), none, .load none (.tmp 6)⟩,
            ⟨(some 22), none, .fldA 0 (.tmp 7)⟩,
            ⟨(some 23), none, .load none (.tmp 22)⟩,
            ⟨(some 24), none, .callF 36 [(.tmp 23)]⟩,
            ⟨(some 25), none, .bin .add (.tmp 24) (.const (.string ⟨#[120]⟩))⟩,
            ⟨(some 26), none, .fldA 1 (.tmp 7)⟩,
            ⟨(some 27), none, .load none (.tmp 26)⟩,
            ⟨(some 28), none, .callF 36 [(.tmp 27)]⟩,
            ⟨(some 29), none, .bin .add (.tmp 25) (.tmp 28)⟩] [⟨(some 30), none, .callV (.tmp 21) [(.tmp 29)]⟩] [[], [], [], [], [], [false, false, false, false, false], [true, false, false, false, false, false], [], []] []))))))
  (.seq (.ops [⟨(some 31), none, .callF 37 [(.tmp 5)]⟩,
      ⟨(some 2), none, .mov (.tmp 31)⟩,
      ⟨(some 3), none, .mov (.const (.int .i64 0))⟩] [2, 3])
  (.ret)))))),
  32, [(2, none), (3, none)], true⟩
theorem ok12 : FunOK Tryd.prog 12 c12 := ⟨⟨Tryd.f12, _, c12.code, Tryd.func12, rfl, by kernel_rfl, rfl, by kernel_rfl, by kernel_rfl⟩⟩
/- raddle/warp.Check -/
def c14 : AFun := ⟨
  .seq (.ops [⟨(some 2), none, .mov (.const (.int .i64 0))⟩] [0])
  (.seq (.seq (.ops [⟨(some 3), none, .mov (.tmp 0)⟩,
      ⟨(some 4), none, .len false (.tmp 3)⟩,
      ⟨(some 5), none, .bin .gtr (.tmp 4) (.const (.int .i64 4000))⟩] [0, 5])
  (.cond (.tmp 5)
    (.seq (.ops [⟨(some 2), none, .mov (.const (.int .i64 4))⟩] [2])
    (.ret))
    (.skip)))
  (.seq (.seq (.ops [⟨(some 6), none, .mov (.tmp 0)⟩,
      ⟨(some 7), none, .callF 39 [(.tmp 6), (.func 40)]⟩] [7])
  (.cond (.tmp 7)
    (.seq (.ops [⟨(some 2), none, .mov (.const (.int .i64 8))⟩] [2])
    (.ret))
    (.skip)))
  (.seq (.ops [⟨(some 2), none, .mov (.const (.int .i64 0))⟩] [2])
  (.ret)))),
  8, [(2, none)], true⟩
theorem ok14 : FunOK Tryd.prog 14 c14 := ⟨⟨Tryd.f14, _, c14.code, Tryd.func14, rfl, by kernel_rfl, rfl, by kernel_rfl, by kernel_rfl⟩⟩
/- raddle/raddleref22.Check -/
def c15l0 : AC :=
  .seq (.seq (.ops [⟨(some 7), none, .mov (.tmp 3)⟩,
          ⟨(some 8), none, .mov (.tmp 0)⟩,
          ⟨(some 9), none, .len false (.tmp 8)⟩,
          ⟨(some 10), none, .bin .lss (.tmp 7) (.tmp 9)⟩] [0, 3, 10])
      (.cond (.tmp 10)
        (.skip)
        (.exit 0)))
      (.seq (.block 1
        (.seq (.ops [⟨(some 13), none, .mov (.tmp 0)⟩,
            ⟨(some 14), none, .mov (.tmp 3)⟩,
            ⟨(some 15), none, .idxS 1 (.tmp 13) (.tmp 14)⟩,
            ⟨(some 16), none, .load none (.tmp 15)⟩,
            ⟨(some 17), none, .bin .lss (.tmp 16) (.const (.int .i64 0))⟩,
            ⟨(some 18), none, .mov (.tmp 17)⟩,
            ⟨(some 19), (some (18, false)), .mov (.tmp 0)⟩,
            ⟨(some 20), (some (18, false)), .mov (.tmp 3)⟩,
            ⟨(some 21), (some (18, false)), .idxS 1 (.tmp 19) (.tmp 20)⟩,
            ⟨(some 22), (some (18, false)), .load none (.tmp 21)⟩,
            ⟨(some 23), (some (18, false)), .bin .gtr (.tmp 22) (.const (.int .i64 15))⟩,
            ⟨(some 24), none, .pick (.tmp 18) (.const (.bool true)) (.tmp 23)⟩] [0, 3, 24])
        (.cond (.tmp 24)
          (.seq (.ops [⟨(some 2), none, .mov (.const (.int .i64 8))⟩] [2])
          (.ret))
          (.skip))))
      (.ops [⟨(some 11), none, .mov (.tmp 3)⟩,
          ⟨(some 12), none, .bin .add (.tmp 11) (.const (.int .i64 1))⟩,
          ⟨(some 3), none, .mov (.tmp 12)⟩] [0, 3]))
def c15 : AFun := ⟨
  .seq (.ops [⟨(some 2), none, .mov (.const (.int .i64 0))⟩] [0])
  (.seq (.seq (.ops [⟨(some 4), none, .mov (.tmp 0)⟩,
      ⟨(some 5), none, .len false (.tmp 4)⟩,
      ⟨(some 6), none, .bin .gtr (.tmp 5) (.const (.int .i64 4000))⟩] [0, 6])
  (.cond (.tmp 6)
    (.seq (.ops [⟨(some 2), none, .mov (.const (.int .i64 4))⟩] [2])
    (.ret))
    (.skip)))
  (.seq (.seq (.ops [⟨(some 3), none, .mov (.const (.int .i64 0))⟩] [0, 3])
  (.block 0
    (.loop [0, 3]
      c15l0)))
  (.seq (.ops [⟨(some 2), none, .mov (.const (.int .i64 0))⟩] [2])
  (.ret)))),
  25, [(2, none)], true⟩
theorem ok15 : FunOK Tryd.prog 15 c15 := ⟨⟨Tryd.f15, _, c15.code, Tryd.func15, rfl, by kernel_rfl, rfl, by kernel_rfl, by kernel_rfl⟩⟩
/- raddle/raddleref22.SameRuns -/
def c16l0 : AC :=
  .seq (.seq (.ops [⟨(some 11), none, .mov (.tmp 5)⟩,
          ⟨(some 12), none, .mov (.tmp 0)⟩,
          ⟨(some 13), none, .len false (.tmp 12)⟩,
          ⟨(some 14), none, .bin .lss (.tmp 11) (.tmp 13)⟩] [0, 1, 5, 14])
      (.cond (.tmp 14)
        (.skip)
        (.exit 0)))
      (.seq (.block 1
        (.seq (.draw [⟨(some 17), none, .mov (.tmp 0)⟩,
            ⟨(some 18), none, .mov (.tmp 5)⟩,
            ⟨(some 19), none, .idxS 2 (.tmp 17) (.tmp 18)⟩,
            ⟨(some 20), none, .load (some 2) (.tmp 19)⟩,
            ⟨(some 21), none, .mov (.tmp 1)⟩,
            ⟨(some 22), none, .mov (.tmp 5)⟩,
            ⟨(some 23), none, .idxS 2 (.tmp 21) (.tmp 22)⟩,
            ⟨(some 24), none, .load (some 2) (.tmp 23)⟩] [⟨(some 25), none, .eqAgg true [(0, 0), (1, 0)] (.tmp 20) (.tmp 24)⟩] [[], [], [], [], [], [], [], []] [0, 1, 5, 25])
        (.cond (.tmp 25)
          (.seq (.ops [⟨(some 4), none, .mov (.const (.bool false))⟩] [4])
          (.ret))
          (.skip))))
      (.ops [⟨(some 15), none, .mov (.tmp 5)⟩,
          ⟨(some 16), none, .bin .add (.tmp 15) (.const (.int .i64 1))⟩,
          ⟨(some 5), none, .mov (.tmp 16)⟩] [0, 1, 5]))
def c16 : AFun := ⟨
  .seq (.ops [⟨(some 4), none, .mov (.const (.bool false))⟩] [0, 1])
  (.seq (.seq (.ops [⟨(some 6), none, .mov (.tmp 0)⟩,
      ⟨(some 7), none, .len false (.tmp 6)⟩,
      ⟨(some 8), none, .mov (.tmp 1)⟩,
      ⟨(some 9), none, .len false (.tmp 8)⟩,
      ⟨(some 10), none, .bin .neq (.tmp 7) (.tmp 9)⟩] [0, 1, 10])
  (.cond (.tmp 10)
    (.seq (.ops [⟨(some 4), none, .mov (.const (.bool false))⟩] [4])
    (.ret))
    (.skip)))
  (.seq (.seq (.ops [⟨(some 5), none, .mov (.const (.int .i64 0))⟩] [0, 1, 5])
  (.block 0
    (.loop [0, 1, 5]
      c16l0)))
  (.seq (.ops [⟨(some 4), none, .mov (.const (.bool true))⟩] [4])
  (.ret)))),
  26, [(4, none)], true⟩
theorem ok16 : FunOK Tryd.prog 16 c16 := ⟨⟨Tryd.f16, _, c16.code, Tryd.func16, rfl, by kernel_rfl, rfl, by kernel_rfl, by kernel_rfl⟩⟩
/- raddle/warp.Cross -/
def c17l0 : AC :=
  .seq (.ops [⟨(some 16), none, .bin .lss (.tmp 15) (.tmp 14)⟩] [2, 3, 13, 14, 15, 16])
      (.seq (.cond (.tmp 16)
        (.skip)
        (.exit 0))
      (.seq (.block 1
        (.seq (.ops [⟨(some 17), none, .mov (.tmp 15)⟩,
            ⟨(some 18), none, .idxS 1 (.tmp 13) (.tmp 15)⟩,
            ⟨(some 19), none, .load none (.tmp 18)⟩,
            ⟨(some 6), none, .mov (.tmp 17)⟩,
            ⟨(some 7), none, .mov (.tmp 19)⟩] [2, 3, 6, 7, 13, 14, 15])
        (.seq (.ops [⟨(some 20), none, .mov (.tmp 6)⟩,
            ⟨(some 21), none, .bin .rem (.tmp 20) (.const (.int .i64 2))⟩,
            ⟨(some 22), none, .bin .eql (.tmp 21) (.const (.int .i64 0))⟩] [2, 3, 7, 13, 14, 15, 22])
        (.cond (.tmp 22)
          (.ops [⟨(some 23), none, .mov (.tmp 2)⟩,
              ⟨(some 24), none, .mov (.tmp 7)⟩,
              ⟨(some 25), none, .mkRow 3 1 1 [(.int .i64 0)] [(0, 1, (.tmp 24))]⟩,
              ⟨(some 26), none, .app 3 1 8 (.tmp 23) (.tmp 25)⟩,
              ⟨(some 2), none, .mov (.tmp 26)⟩] [2, 3, 13, 14, 15])
          (.ops [⟨(some 27), none, .mov (.tmp 3)⟩,
              ⟨(some 28), none, .mov (.tmp 7)⟩,
              ⟨(some 29), none, .mkRow 3 1 1 [(.int .i64 0)] [(0, 1, (.tmp 28))]⟩,
              ⟨(some 30), none, .app 3 1 8 (.tmp 27) (.tmp 29)⟩,
              ⟨(some 3), none, .mov (.tmp 30)⟩] [2, 3, 13, 14, 15])))))
      (.ops [⟨(some 31), none, .bin .add (.tmp 15) (.const (.int .i64 1))⟩,
          ⟨(some 15), none, .mov (.tmp 31)⟩] [2, 3, 13, 14, 15])))
def c17 : AFun := ⟨
  .seq (.ops [⟨(some 2), none, .mov (.const (.slice none 0 0))⟩,
      ⟨(some 3), none, .mov (.const (.slice none 0 0))⟩,
      ⟨(some 4), none, .mov (.const (.int .i64 0))⟩] [0, 2, 3])
  (.seq (.seq (.ops [⟨(some 8), none, .mov (.tmp 0)⟩,
      ⟨(some 9), none, .callF 14 [(.tmp 8)]⟩,
      ⟨(some 5), none, .mov (.tmp 9)⟩] [0, 2, 3, 5])
  (.seq (.ops [⟨(some 10), none, .mov (.tmp 5)⟩,
      ⟨(some 11), none, .bin .neq (.tmp 10) (.const (.int .i64 0))⟩] [0, 2, 3, 5, 11])
  (.cond (.tmp 11)
    (.seq (.ops [⟨(some 12), none, .mov (.tmp 5)⟩,
        ⟨(some 2), none, .mov (.const (.slice none 0 0))⟩,
        ⟨(some 3), none, .mov (.const (.slice none 0 0))⟩,
        ⟨(some 4), none, .mov (.tmp 12)⟩] [2, 3, 4])
    (.ret))
    (.skip))))
  (.seq (.seq (.ops [⟨(some 13), none, .mov (.tmp 0)⟩,
      ⟨(some 14), none, .len false (.tmp 13)⟩,
      ⟨(some 15), none, .mov (.const (.int .i64 0))⟩] [2, 3, 13, 14, 15])
  (.block 0
    (.loop [2, 3, 13, 14, 15]
      c17l0)))
  (.seq (.ops [⟨(some 32), none, .mov (.tmp 2)⟩,
      ⟨(some 33), none, .mov (.tmp 3)⟩,
      ⟨(some 2), none, .mov (.tmp 32)⟩,
      ⟨(some 3), none, .mov (.tmp 33)⟩,
      ⟨(some 4), none, .mov (.const (.int .i64 0))⟩] [2, 3, 4])
  (.ret)))),
  34, [(2, none), (3, none), (4, none)], true⟩
theorem ok17 : FunOK Tryd.prog 17 c17 := ⟨⟨Tryd.f17, _, c17.code, Tryd.func17, rfl, by kernel_rfl, rfl, by kernel_rfl, by kernel_rfl⟩⟩
/- raddle/raddleref21.Same -/
def c21l0 : AC :=
  .seq (.seq (.ops [⟨(some 11), none, .mov (.tmp 5)⟩,
          ⟨(some 12), none, .mov (.tmp 0)⟩,
          ⟨(some 13), none, .len false (.tmp 12)⟩,
          ⟨(some 14), none, .bin .lss (.tmp 11) (.tmp 13)⟩] [0, 1, 5, 14])
      (.cond (.tmp 14)
        (.skip)
        (.exit 0)))
      (.seq (.block 1
        (.seq (.draw [⟨(some 17), none, .mov (.tmp 0)⟩,
            ⟨(some 18), none, .mov (.tmp 5)⟩,
            ⟨(some 19), none, .idxS 1 (.tmp 17) (.tmp 18)⟩,
            ⟨(some 20), none, .load none (.tmp 19)⟩,
            ⟨(some 21), none, .mov (.tmp 1)⟩,
            ⟨(some 22), none, .mov (.tmp 5)⟩,
            ⟨(some 23), none, .idxS 1 (.tmp 21) (.tmp 22)⟩,
            ⟨(some 24), none, .load none (.tmp 23)⟩] [⟨(some 25), none, .bin .neq (.tmp 20) (.tmp 24)⟩] [[], [], [], [], [], [], [], []] [0, 1, 5, 25])
        (.cond (.tmp 25)
          (.seq (.ops [⟨(some 4), none, .mov (.const (.bool false))⟩] [4])
          (.ret))
          (.skip))))
      (.ops [⟨(some 15), none, .mov (.tmp 5)⟩,
          ⟨(some 16), none, .bin .add (.tmp 15) (.const (.int .i64 1))⟩,
          ⟨(some 5), none, .mov (.tmp 16)⟩] [0, 1, 5]))
def c21 : AFun := ⟨
  .seq (.ops [⟨(some 4), none, .mov (.const (.bool false))⟩] [0, 1])
  (.seq (.seq (.ops [⟨(some 6), none, .mov (.tmp 0)⟩,
      ⟨(some 7), none, .len false (.tmp 6)⟩,
      ⟨(some 8), none, .mov (.tmp 1)⟩,
      ⟨(some 9), none, .len false (.tmp 8)⟩,
      ⟨(some 10), none, .bin .neq (.tmp 7) (.tmp 9)⟩] [0, 1, 10])
  (.cond (.tmp 10)
    (.seq (.ops [⟨(some 4), none, .mov (.const (.bool false))⟩] [4])
    (.ret))
    (.skip)))
  (.seq (.seq (.ops [⟨(some 5), none, .mov (.const (.int .i64 0))⟩] [0, 1, 5])
  (.block 0
    (.loop [0, 1, 5]
      c21l0)))
  (.seq (.ops [⟨(some 4), none, .mov (.const (.bool true))⟩] [4])
  (.ret)))),
  26, [(4, none)], true⟩
theorem ok21 : FunOK Tryd.prog 21 c21 := ⟨⟨Tryd.f21, _, c21.code, Tryd.func21, rfl, by kernel_rfl, rfl, by kernel_rfl, by kernel_rfl⟩⟩
/- raddle/raddlelaw22.alive -/
def c22 : AFun := ⟨
  .seq (.ops [⟨(some 0), none, .mov (.const (.bool false))⟩] [])
  (.seq (.ops [⟨(some 18), none, .mkRow 3 1 6 [(.int .i64 0)] [(0, 1, (.const (.int .i64 1))), (1, 1, (.const (.int .i64 1))), (2, 1, (.const (.int .i64 1))), (3, 1, (.const (.int .i64 1))), (4, 1, (.const (.int .i64 0))), (5, 1, (.const (.int .i64 0)))]⟩,
      ⟨(some 19), none, .callF 10 [(.tmp 18)]⟩,
      ⟨(some 17), none, .mov (.tmp 19)⟩,
      ⟨(some 20), none, .ext (.tmp 17) 0⟩,
      ⟨(some 21), none, .ext (.tmp 17) 1⟩,
      ⟨(some 1), none, .mov (.tmp 20)⟩,
      ⟨(some 2), none, .mov (.tmp 21)⟩] [1, 2])
  (.seq (.ops [⟨(some 23), none, .mkRow 3 1 2 [(.int .i64 0)] [(0, 1, (.const (.int .i64 1))), (1, 1, (.const (.int .i64 2)))]⟩,
      ⟨(some 24), none, .callF 26 [(.tmp 23), (.const (.int .i64 3)), (.const (.bool false))]⟩,
      ⟨(some 22), none, .mov (.tmp 24)⟩,
      ⟨(some 25), none, .ext (.tmp 22) 0⟩,
      ⟨(some 26), none, .ext (.tmp 22) 1⟩,
      ⟨(some 3), none, .mov (.tmp 25)⟩,
      ⟨(some 4), none, .mov (.tmp 26)⟩] [1, 2, 3, 4])
  (.seq (.ops [⟨(some 28), none, .mkRow 3 1 2 [(.int .i64 0)] [(0, 1, (.const (.int .i64 1))), (1, 1, (.const (.int .i64 2)))]⟩,
      ⟨(some 29), none, .callF 26 [(.tmp 28), (.const (.int .i64 3)), (.const (.bool true))]⟩,
      ⟨(some 27), none, .mov (.tmp 29)⟩,
      ⟨(some 30), none, .ext (.tmp 27) 0⟩,
      ⟨(some 31), none, .ext (.tmp 27) 1⟩,
      ⟨(some 5), none, .mov (.tmp 30)⟩,
      ⟨(some 6), none, .mov (.tmp 31)⟩] [1, 2, 3, 4, 5, 6])
  (.seq (.ops [⟨(some 33), none, .mkRow 3 1 6 [(.int .i64 0)] [(0, 1, (.const (.int .i64 1))), (1, 1, (.const (.int .i64 2))), (2, 1, (.const (.int .i64 2))), (3, 1, (.const (.int .i64 1))), (4, 1, (.const (.int .i64 1))), (5, 1, (.const (.int .i64 2)))]⟩,
      ⟨(some 34), none, .callF 24 [(.tmp 33), (.const (.bool true))]⟩,
      ⟨(some 32), none, .mov (.tmp 34)⟩,
      ⟨(some 35), none, .ext (.tmp 32) 0⟩,
      ⟨(some 36), none, .ext (.tmp 32) 1⟩,
      ⟨(some 7), none, .mov (.tmp 35)⟩,
      ⟨(some 8), none, .mov (.tmp 36)⟩] [1, 2, 3, 4, 5, 6, 7, 8])
  (.seq (.ops [⟨(some 38), none, .mkRow 3 1 6 [(.int .i64 0)] [(0, 1, (.const (.int .i64 1))), (1, 1, (.const (.int .i64 2))), (2, 1, (.const (.int .i64 2))), (3, 1, (.const (.int .i64 1))), (4, 1, (.const (.int .i64 1))), (5, 1, (.const (.int .i64 2)))]⟩,
      ⟨(some 39), none, .callF 24 [(.tmp 38), (.const (.bool false))]⟩,
      ⟨(some 37), none, .mov (.tmp 39)⟩,
      ⟨(some 40), none, .ext (.tmp 37) 0⟩,
      ⟨(some 41), none, .ext (.tmp 37) 1⟩,
      ⟨(some 9), none, .mov (.tmp 40)⟩,
      ⟨(some 10), none, .mov (.tmp 41)⟩] [1, 2, 3, 4, 5, 6, 7, 8, 9, 10])
  (.seq (.ops [⟨(some 43), none, .mkRow 3 1 3 [(.int .i64 0)] [(0, 1, (.const (.int .i64 1))), (1, 1, (.const (.int .i64 2))), (2, 1, (.const (.int .i64 3)))]⟩,
      ⟨(some 44), none, .callF 17 [(.tmp 43)]⟩,
      ⟨(some 42), none, .mov (.tmp 44)⟩,
      ⟨(some 45), none, .ext (.tmp 42) 0⟩,
      ⟨(some 46), none, .ext (.tmp 42) 1⟩,
      ⟨(some 47), none, .ext (.tmp 42) 2⟩,
      ⟨(some 11), none, .mov (.tmp 45)⟩,
      ⟨(some 12), none, .mov (.tmp 46)⟩,
      ⟨(some 13), none, .mov (.tmp 47)⟩] [1, 2, 3, 4, 5, 6, 7, 8, 9, 10, 11, 12, 13])
  (.seq (.ops [⟨(some 49), none, .mkRow 3 1 6 [(.int .i64 0)] [(0, 1, (.const (.int .i64 1))), (1, 1, (.const (.int .i64 1))), (2, 1, (.const (.int .i64 1))), (3, 1, (.const (.int .i64 1))), (4, 1, (.const (.int .i64 0))), (5, 1, (.const (.int .i64 0)))]⟩,
      ⟨(some 50), none, .callF 12 [(.tmp 49)]⟩,
      ⟨(some 48), none, .mov (.tmp 50)⟩,
      ⟨(some 51), none, .ext (.tmp 48) 0⟩,
      ⟨(some 52), none, .ext (.tmp 48) 1⟩,
      ⟨(some 14), none, .mov (.tmp 51)⟩,
      ⟨(some 15), none, .mov (.tmp 52)⟩] [1, 2, 3, 4, 5, 6, 7, 8, 9, 10, 11, 12, 13, 14, 15])
  (.seq (.ops [⟨(some 53), none, .mov (.tmp 2)⟩,
      ⟨(some 54), none, .bin .eql (.tmp 53) (.const (.int .i64 0))⟩,
      ⟨(some 55), none, .mov (.tmp 54)⟩,
      ⟨(some 56), (some (55, true)), .mov (.tmp 4)⟩,
      ⟨(some 57), (some (55, true)), .bin .eql (.tmp 56) (.const (.int .i64 0))⟩,
      ⟨(some 58), none, .pick (.tmp 55) (.tmp 57) (.const (.bool false))⟩,
      ⟨(some 59), none, .mov (.tmp 58)⟩,
      ⟨(some 60), (some (59, true)), .mov (.tmp 6)⟩,
      ⟨(some 61), (some (59, true)), .bin .eql (.tmp 60) (.const (.int .i64 0))⟩,
      ⟨(some 62), none, .pick (.tmp 59) (.tmp 61) (.const (.bool false))⟩,
      ⟨(some 63), none, .mov (.tmp 62)⟩,
      ⟨(some 64), (some (63, true)), .mov (.tmp 8)⟩,
      ⟨(some 65), (some (63, true)), .bin .eql (.tmp 64) (.const (.int .i64 0))⟩,
      ⟨(some 66), none, .pick (.tmp 63) (.tmp 65) (.const (.bool false))⟩,
      ⟨(some 67), none, .mov (.tmp 66)⟩,
      ⟨(some 68), (some (67, true)), .mov (.tmp 10)⟩,
      ⟨(some 69), (some (67, true)), .bin .eql (.tmp 68) (.const (.int .i64 0))⟩,
      ⟨(some 70), none, .pick (.tmp 67) (.tmp 69) (.const (.bool false))⟩,
      ⟨(some 71), none, .mov (.tmp 70)⟩,
      ⟨(some 72), (some (71, true)), .mov (.tmp 13)⟩,
      ⟨(some 73), (some (71, true)), .bin .eql (.tmp 72) (.const (.int .i64 0))⟩,
      ⟨(some 74), none, .pick (.tmp 71) (.tmp 73) (.const (.bool false))⟩,
      ⟨(some 75), none, .mov (.tmp 74)⟩,
      ⟨(some 76), (some (75, true)), .mov (.tmp 15)⟩,
      ⟨(some 77), (some (75, true)), .bin .eql (.tmp 76) (.const (.int .i64 0))⟩,
      ⟨(some 78), none, .pick (.tmp 75) (.tmp 77) (.const (.bool false))⟩,
      ⟨(some 16), none, .mov (.tmp 78)⟩] [1, 3, 5, 7, 9, 11, 12, 14, 16])
  (.seq (.ops [⟨(some 79), none, .mov (.tmp 16)⟩,
      ⟨(some 80), none, .mov (.tmp 79)⟩,
      ⟨(some 81), (some (80, true)), .mov (.tmp 1)⟩,
      ⟨(some 82), (some (80, true)), .build [(.int .i64 0), (.int .i64 0)] [(0, 1, (.const (.int .i64 4))), (1, 1, (.const (.int .i64 1)))]⟩,
      ⟨(some 83), (some (80, true)), .build [(.int .i64 0), (.int .i64 0)] [(0, 1, (.const (.int .i64 2)))]⟩,
      ⟨(some 84), (some (80, true)), .mkRow 58 2 2 [(.int .i64 0), (.int .i64 0)] [(0, 2, (.tmp 82)), (2, 2, (.tmp 83))]⟩,
      ⟨(some 85), (some (80, true)), .callF 16 [(.tmp 81), (.tmp 84)]⟩,
      ⟨(some 86), none, .pick (.tmp 80) (.tmp 85) (.const (.bool false))⟩,
      ⟨(some 87), none, .mov (.tmp 86)⟩,
      ⟨(some 88), (some (87, true)), .mov (.tmp 3)⟩,
      ⟨(some 89), (some (87, true)), .mkRow 3 1 6 [(.int .i64 0)] [(0, 1, (.const (.int .i64 1))), (1, 1, (.const (.int .i64 2))), (2, 1, (.const (.int .i64 1))), (3, 1, (.const (.int .i64 2))), (4, 1, (.const (.int .i64 1))), (5, 1, (.const (.int .i64 2)))]⟩,
      ⟨(some 90), (some (87, true)), .callF 21 [(.tmp 88), (.tmp 89)]⟩,
      ⟨(some 91), none, .pick (.tmp 87) (.tmp 90) (.const (.bool false))⟩,
      ⟨(some 92), none, .mov (.tmp 91)⟩,
      ⟨(some 93), (some (92, true)), .mov (.tmp 5)⟩,
      ⟨(some 94), (some (92, true)), .mkRow 3 1 6 [(.int .i64 0)] [(0, 1, (.const (.int .i64 1))), (1, 1, (.const (.int .i64 2))), (2, 1, (.const (.int .i64 2))), (3, 1, (.const (.int .i64 1))), (4, 1, (.const (.int .i64 1))), (5, 1, (.const (.int .i64 2)))]⟩,
      ⟨(some 95), (some (92, true)), .callF 21 [(.tmp 93), (.tmp 94)]⟩,
      ⟨(some 96), none, .pick (.tmp 92) (.tmp 95) (.const (.bool false))⟩,
      ⟨(some 97), none, .mov (.tmp 96)⟩,
      ⟨(some 98), (some (97, true)), .mov (.tmp 7)⟩,
      ⟨(some 99), (some (97, true)), .mkRow 3 1 2 [(.int .i64 0)] [(0, 1, (.const (.int .i64 1))), (1, 1, (.const (.int .i64 2)))]⟩,
      ⟨(some 100), (some (97, true)), .callF 21 [(.tmp 98), (.tmp 99)]⟩,
      ⟨(some 101), none, .pick (.tmp 97) (.tmp 100) (.const (.bool false))⟩,
      ⟨(some 102), none, .mov (.tmp 101)⟩,
      ⟨(some 103), (some (102, true)), .mov (.tmp 9)⟩,
      ⟨(some 104), (some (102, true)), .mkRow 3 1 6 [(.int .i64 0)] [(0, 1, (.const (.int .i64 1))), (1, 1, (.const (.int .i64 2))), (2, 1, (.const (.int .i64 2))), (3, 1, (.const (.int .i64 1))), (4, 1, (.const (.int .i64 1))), (5, 1, (.const (.int .i64 2)))]⟩,
      ⟨(some 105), (some (102, true)), .callF 21 [(.tmp 103), (.tmp 104)]⟩,
      ⟨(some 106), none, .pick (.tmp 102) (.tmp 105) (.const (.bool false))⟩,
      ⟨(some 107), none, .mov (.tmp 106)⟩,
      ⟨(some 108), (some (107, true)), .mov (.tmp 11)⟩,
      ⟨(some 109), (some (107, true)), .mkRow 3 1 2 [(.int .i64 0)] [(0, 1, (.const (.int .i64 1))), (1, 1, (.const (.int .i64 3)))]⟩,
      ⟨(some 110), (some (107, true)), .callF 21 [(.tmp 108), (.tmp 109)]⟩,
      ⟨(some 111), none, .pick (.tmp 107) (.tmp 110) (.const (.bool false))⟩,
      ⟨(some 112), none, .mov (.tmp 111)⟩,
      ⟨(some 113), (some (112, true)), .mov (.tmp 12)⟩,
      ⟨(some 114), (some (112, true)), .mkRow 3 1 1 [(.int .i64 0)] [(0, 1, (.const (.int .i64 2)))]⟩,
      ⟨(some 115), (some (112, true)), .callF 21 [(.tmp 113), (.tmp 114)]⟩,
      ⟨(some 116), none, .pick (.tmp 112) (.tmp 115) (.const (.bool false))⟩,
      ⟨(some 117), none, .mov (.tmp 116)⟩,
      ⟨(some 118), (some (117, true)), .mov (.tmp 14)⟩,
      ⟨(some 119), (some (117, true)), .bin .eql (.tmp 118) (.const (.string ⟨#[52, 120, 49, 32, 50, 120, 48]⟩))⟩,
      ⟨(some 120), none, .pick (.tmp 117) (.tmp 119) (.const (.bool false))⟩,
      ⟨(some 0), none, .mov (.tmp 120)⟩] [0])
  (.ret)))))))))),
  121, [(0, none)], true⟩
theorem ok22 : FunOK Tryd.prog 22 c22 := ⟨⟨Tryd.f22, _, c22.code, Tryd.func22, rfl, by kernel_rfl, rfl, by kernel_rfl, by kernel_rfl⟩⟩
/- raddle/raddlelaw22.fit -/
def c23 : AFun := ⟨
  .seq (.ops [⟨(some 2), none, .mov (.const (.bool false))⟩] [0])
  (.seq (.ops [⟨(some 3), none, .mov (.tmp 0)⟩,
      ⟨(some 4), none, .len false (.tmp 3)⟩,
      ⟨(some 5), none, .bin .leq (.tmp 4) (.const (.int .i64 60))⟩,
      ⟨(some 6), none, .mov (.tmp 5)⟩,
      ⟨(some 7), (some (6, true)), .mov (.tmp 0)⟩,
      ⟨(some 8), (some (6, true)), .callF 15 [(.tmp 7)]⟩,
      ⟨(some 9), (some (6, true)), .bin .eql (.tmp 8) (.const (.int .i64 0))⟩,
      ⟨(some 10), none, .pick (.tmp 6) (.tmp 9) (.const (.bool false))⟩,
      ⟨(some 2), none, .mov (.tmp 10)⟩] [2])
  (.ret)),
  11, [(2, none)], true⟩
theorem ok23 : FunOK Tryd.prog 23 c23 := ⟨⟨Tryd.f23, _, c23.code, Tryd.func23, rfl, by kernel_rfl, rfl, by kernel_rfl, by kernel_rfl⟩⟩
/- raddle/warp.Fewest -/
def c24l0 : AC :=
  .seq (.seq (.ops [⟨(some 15), none, .mov (.tmp 7)⟩,
          ⟨(some 16), none, .mov (.tmp 0)⟩,
          ⟨(some 17), none, .len false (.tmp 16)⟩,
          ⟨(some 18), none, .mm false (.const (.int .i64 64)) (.tmp 17)⟩,
          ⟨(some 19), none, .bin .leq (.tmp 15) (.tmp 18)⟩] [0, 1, 7, 19])
      (.cond (.tmp 19)
        (.skip)
        (.exit 0)))
      (.seq (.block 1
        (.seq (.ops [⟨(some 23), none, .mov (.tmp 0)⟩,
            ⟨(some 24), none, .mov (.tmp 7)⟩,
            ⟨(some 25), none, .mov (.tmp 1)⟩,
            ⟨(some 26), none, .callF 25 [(.tmp 23), (.tmp 24), (.tmp 25)]⟩,
            ⟨(some 22), none, .mov (.tmp 26)⟩,
            ⟨(some 27), none, .ext (.tmp 22) 0⟩,
            ⟨(some 28), none, .ext (.tmp 22) 1⟩,
            ⟨(some 8), none, .mov (.tmp 27)⟩,
            ⟨(some 9), none, .mov (.tmp 28)⟩] [0, 1, 7, 8, 9])
        (.seq (.ops [⟨(some 29), none, .mov (.tmp 9)⟩,
            ⟨(some 30), none, .bin .eql (.tmp 29) (.const (.int .i64 0))⟩] [0, 1, 7, 8, 30])
        (.cond (.tmp 30)
          (.seq (.ops [⟨(some 31), none, .mov (.tmp 8)⟩,
              ⟨(some 4), none, .mov (.tmp 31)⟩,
              ⟨(some 5), none, .mov (.const (.int .i64 0))⟩] [4, 5])
          (.ret))
          (.skip)))))
      (.ops [⟨(some 20), none, .mov (.tmp 7)⟩,
          ⟨(some 21), none, .bin .add (.tmp 20) (.const (.int .i64 1))⟩,
          ⟨(some 7), none, .mov (.tmp 21)⟩] [0, 1, 7]))
def c24 : AFun := ⟨
  .seq (.ops [⟨(some 4), none, .mov (.const (.slice none 0 0))⟩,
      ⟨(some 5), none, .mov (.const (.int .i64 0))⟩] [0, 1])
  (.seq (.seq (.ops [⟨(some 10), none, .mov (.tmp 0)⟩,
      ⟨(some 11), none, .callF 14 [(.tmp 10)]⟩,
      ⟨(some 6), none, .mov (.tmp 11)⟩] [0, 1, 6])
  (.seq (.ops [⟨(some 12), none, .mov (.tmp 6)⟩,
      ⟨(some 13), none, .bin .neq (.tmp 12) (.const (.int .i64 0))⟩] [0, 1, 6, 13])
  (.cond (.tmp 13)
    (.seq (.ops [⟨(some 14), none, .mov (.tmp 6)⟩,
        ⟨(some 4), none, .mov (.const (.slice none 0 0))⟩,
        ⟨(some 5), none, .mov (.tmp 14)⟩] [4, 5])
    (.ret))
    (.skip))))
  (.seq (.seq (.ops [⟨(some 7), none, .mov (.const (.int .i64 1))⟩] [0, 1, 7])
  (.block 0
    (.loop [0, 1, 7]
      c24l0)))
  (.seq (.ops [⟨(some 4), none, .mov (.const (.slice none 0 0))⟩,
      ⟨(some 5), none, .mov (.const (.int .i64 6))⟩] [4, 5])
  (.ret)))),
  32, [(4, none), (5, none)], true⟩
theorem ok24 : FunOK Tryd.prog 24 c24 := ⟨⟨Tryd.f24, _, c24.code, Tryd.func24, rfl, by kernel_rfl, rfl, by kernel_rfl, by kernel_rfl⟩⟩
/- raddle/warp.Cones -/
def c25 : AFun := ⟨
  .seq (.ops [⟨(some 6), none, .mov (.const (.slice none 0 0))⟩,
      ⟨(some 7), none, .mov (.const (.int .i64 0))⟩] [0, 1, 2])
  (.seq (.seq (.ops [⟨(some 9), none, .mov (.tmp 0)⟩,
      ⟨(some 10), none, .callF 14 [(.tmp 9)]⟩,
      ⟨(some 8), none, .mov (.tmp 10)⟩] [0, 1, 2, 8])
  (.seq (.ops [⟨(some 11), none, .mov (.tmp 8)⟩,
      ⟨(some 12), none, .bin .neq (.tmp 11) (.const (.int .i64 0))⟩] [0, 1, 2, 8, 12])
  (.cond (.tmp 12)
    (.seq (.ops [⟨(some 13), none, .mov (.tmp 8)⟩,
        ⟨(some 6), none, .mov (.const (.slice none 0 0))⟩,
        ⟨(some 7), none, .mov (.tmp 13)⟩] [6, 7])
    (.ret))
    (.skip))))
  (.seq (.seq (.ops [⟨(some 14), none, .mov (.tmp 1)⟩,
      ⟨(some 15), none, .bin .lss (.tmp 14) (.const (.int .i64 1))⟩,
      ⟨(some 16), none, .mov (.tmp 15)⟩,
      ⟨(some 17), (some (16, false)), .mov (.tmp 1)⟩,
      ⟨(some 18), (some (16, false)), .bin .gtr (.tmp 17) (.const (.int .i64 64))⟩,
      ⟨(some 19), none, .pick (.tmp 16) (.const (.bool true)) (.tmp 18)⟩] [0, 1, 2, 19])
  (.cond (.tmp 19)
    (.seq (.ops [⟨(some 6), none, .mov (.const (.slice none 0 0))⟩,
        ⟨(some 7), none, .mov (.const (.int .i64 2))⟩] [6, 7])
    (.ret))
    (.skip)))
  (.seq (.seq (.ops [⟨(some 20), none, .mov (.tmp 0)⟩,
      ⟨(some 21), none, .len false (.tmp 20)⟩,
      ⟨(some 22), none, .bin .eql (.tmp 21) (.const (.int .i64 0))⟩,
      ⟨(some 23), none, .mov (.tmp 22)⟩,
      ⟨(some 24), (some (23, false)), .mov (.tmp 0)⟩,
      ⟨(some 25), (some (23, false)), .len false (.tmp 24)⟩,
      ⟨(some 26), (some (23, false)), .mov (.tmp 1)⟩,
      ⟨(some 27), (some (23, false)), .bin .rem (.tmp 25) (.tmp 26)⟩,
      ⟨(some 28), (some (23, false)), .bin .neq (.tmp 27) (.const (.int .i64 0))⟩,
      ⟨(some 29), none, .pick (.tmp 23) (.const (.bool true)) (.tmp 28)⟩] [0, 1, 2, 29])
  (.cond (.tmp 29)
    (.seq (.ops [⟨(some 6), none, .mov (.const (.slice none 0 0))⟩,
        ⟨(some 7), none, .mov (.const (.int .i64 26))⟩] [6, 7])
    (.ret))
    (.skip)))
  (.seq (.seq (.draw [⟨(some 30), none, .mov (.tmp 2)⟩,
      ⟨(some 31), none, .callF 44 [(.tmp 30)]⟩,
      ⟨(some 32), none, .mov (.tmp 0)⟩,
      ⟨(some 33), none, .mov (.tmp 1)⟩,
      ⟨(some 34), none, .slc 1 (.tmp 32) none (some (.tmp 33)) none⟩,
      ⟨(some 35), none, .mov (.tmp 0)⟩,
      ⟨(some 36), none, .len false (.tmp 35)⟩,
      ⟨(some 37), none, .mov (.tmp 1)⟩,
      ⟨(some 38), none, .bin .quo (.tmp 36) (.tmp 37)⟩,
      ⟨(some 39), none, .callF 43 [(.tmp 31), (.tmp 34), (.tmp 38)]⟩,
      ⟨(some 40), none, .mov (.tmp 0)⟩] [⟨(some 41), none, .callF 42 [(.tmp 39), (.tmp 40)]⟩,
      ⟨(some 42), none, .un .not (.tmp 41)⟩] [[], [], [false, false], [false, false, false], [true, true, false, false], [false, false, false, false, false], [true, false, false, false, false, false], [false, false, false, false, false, false, false], [true, true, true, false, false, false, false, false], [], [false, false, false, false, false, false, false, false, false, false]] [0, 1, 42])
  (.cond (.tmp 42)
    (.seq (.ops [⟨(some 6), none, .mov (.const (.slice none 0 0))⟩,
        ⟨(some 7), none, .mov (.const (.int .i64 6))⟩] [6, 7])
    (.ret))
    (.skip)))
  (.seq (.ops [⟨(some 43), none, .mov (.tmp 0)⟩,
      ⟨(some 44), none, .mov (.tmp 1)⟩,
      ⟨(some 45), none, .slc 1 (.tmp 43) none (some (.tmp 44)) none⟩,
      ⟨(some 46), none, .callF 45 [(.tmp 45)]⟩,
      ⟨(some 6), none, .mov (.tmp 46)⟩,
      ⟨(some 7), none, .mov (.const (.int .i64 0))⟩] [6, 7])
  (.ret)))))),
  47, [(6, none), (7, none)], true⟩
theorem ok25 : FunOK Tryd.prog 25 c25 := ⟨⟨Tryd.f25, _, c25.code, Tryd.func25, rfl, by kernel_rfl, rfl, by kernel_rfl, by kernel_rfl⟩⟩
/- raddle/warp.Wind -/
def c26 : AFun := ⟨
  .seq (.ops [⟨(some 6), none, .mov (.const (.slice none 0 0))⟩,
      ⟨(some 7), none, .mov (.const (.int .i64 0))⟩] [0, 1, 2])
  (.seq (.seq (.ops [⟨(some 8), none, .mov (.tmp 0)⟩,
      ⟨(some 9), none, .len false (.tmp 8)⟩,
      ⟨(some 10), none, .bin .lss (.tmp 9) (.const (.int .i64 1))⟩,
      ⟨(some 11), none, .mov (.tmp 10)⟩,
      ⟨(some 12), (some (11, false)), .mov (.tmp 0)⟩,
      ⟨(some 13), (some (11, false)), .len false (.tmp 12)⟩,
      ⟨(some 14), (some (11, false)), .bin .gtr (.tmp 13) (.const (.int .i64 64))⟩,
      ⟨(some 15), none, .pick (.tmp 11) (.const (.bool true)) (.tmp 14)⟩] [0, 1, 2, 15])
  (.cond (.tmp 15)
    (.seq (.ops [⟨(some 6), none, .mov (.const (.slice none 0 0))⟩,
        ⟨(some 7), none, .mov (.const (.int .i64 2))⟩] [6, 7])
    (.ret))
    (.skip)))
  (.seq (.seq (.ops [⟨(some 16), none, .mov (.tmp 0)⟩,
      ⟨(some 17), none, .callF 14 [(.tmp 16)]⟩,
      ⟨(some 18), none, .bin .neq (.tmp 17) (.const (.int .i64 0))⟩] [0, 1, 2, 18])
  (.cond (.tmp 18)
    (.seq (.ops [⟨(some 6), none, .mov (.const (.slice none 0 0))⟩,
        ⟨(some 7), none, .mov (.const (.int .i64 8))⟩] [6, 7])
    (.ret))
    (.skip)))
  (.seq (.seq (.ops [⟨(some 19), none, .mov (.tmp 1)⟩,
      ⟨(some 20), none, .bin .lss (.tmp 19) (.const (.int .i64 0))⟩,
      ⟨(some 21), none, .mov (.tmp 20)⟩,
      ⟨(some 22), (some (21, false)), .mov (.tmp 1)⟩,
      ⟨(some 23), (some (21, false)), .bin .gtr (.tmp 22) (.const (.int .i64 4000))⟩,
      ⟨(some 24), none, .pick (.tmp 21) (.const (.bool true)) (.tmp 23)⟩] [0, 1, 2, 24])
  (.cond (.tmp 24)
    (.seq (.ops [⟨(some 6), none, .mov (.const (.slice none 0 0))⟩,
        ⟨(some 7), none, .mov (.const (.int .i64 2))⟩] [6, 7])
    (.ret))
    (.skip)))
  (.seq (.seq (.ops [⟨(some 25), none, .mov (.tmp 1)⟩,
      ⟨(some 26), none, .mov (.tmp 0)⟩,
      ⟨(some 27), none, .len false (.tmp 26)⟩,
      ⟨(some 28), none, .bin .mul (.tmp 25) (.tmp 27)⟩,
      ⟨(some 29), none, .bin .gtr (.tmp 28) (.const (.int .i64 4000))⟩] [0, 1, 2, 29])
  (.cond (.tmp 29)
    (.seq (.ops [⟨(some 6), none, .mov (.const (.slice none 0 0))⟩,
        ⟨(some 7), none, .mov (.const (.int .i64 4))⟩] [6, 7])
    (.ret))
    (.skip)))
  (.seq (.ops [⟨(some 30), none, .mov (.tmp 2)⟩,
      ⟨(some 31), none, .callF 44 [(.tmp 30)]⟩,
      ⟨(some 32), none, .mov (.tmp 0)⟩,
      ⟨(some 33), none, .mov (.tmp 1)⟩,
      ⟨(some 34), none, .callF 43 [(.tmp 31), (.tmp 32), (.tmp 33)]⟩,
      ⟨(some 6), none, .mov (.tmp 34)⟩,
      ⟨(some 7), none, .mov (.const (.int .i64 0))⟩] [6, 7])
  (.ret)))))),
  35, [(6, none), (7, none)], true⟩
theorem ok26 : FunOK Tryd.prog 26 c26 := ⟨⟨Tryd.f26, _, c26.code, Tryd.func26, rfl, by kernel_rfl, rfl, by kernel_rfl, by kernel_rfl⟩⟩
/- raddle/raddleref22.Cone -/
def c27 : AFun := ⟨
  .seq (.ops [⟨(some 6), none, .mov (.const (.int .i64 0))⟩] [0, 1, 2])
  (.seq (.seq (.ops [⟨(some 7), none, .mov (.tmp 2)⟩,
      ⟨(some 8), none, .mov (.tmp 7)⟩,
      ⟨(some 9), (some (8, true)), .mov (.tmp 0)⟩,
      ⟨(some 10), (some (8, true)), .mov (.tmp 1)⟩,
      ⟨(some 11), (some (8, true)), .bin .quo (.tmp 9) (.tmp 10)⟩,
      ⟨(some 12), (some (8, true)), .bin .rem (.tmp 11) (.const (.int .i64 2))⟩,
      ⟨(some 13), (some (8, true)), .bin .eql (.tmp 12) (.const (.int .i64 1))⟩,
      ⟨(some 14), none, .pick (.tmp 8) (.tmp 13) (.const (.bool false))⟩] [0, 1, 14])
  (.cond (.tmp 14)
    (.seq (.ops [⟨(some 15), none, .mov (.tmp 1)⟩,
        ⟨(some 16), none, .bin .sub (.tmp 15) (.const (.int .i64 1))⟩,
        ⟨(some 17), none, .mov (.tmp 0)⟩,
        ⟨(some 18), none, .mov (.tmp 1)⟩,
        ⟨(some 19), none, .bin .rem (.tmp 17) (.tmp 18)⟩,
        ⟨(some 20), none, .bin .sub (.tmp 16) (.tmp 19)⟩,
        ⟨(some 6), none, .mov (.tmp 20)⟩] [6])
    (.ret))
    (.skip)))
  (.seq (.ops [⟨(some 21), none, .mov (.tmp 0)⟩,
      ⟨(some 22), none, .mov (.tmp 1)⟩,
      ⟨(some 23), none, .bin .rem (.tmp 21) (.tmp 22)⟩,
      ⟨(some 6), none, .mov (.tmp 23)⟩] [6])
  (.ret))),
  24, [(6, none)], true⟩
theorem ok27 : FunOK Tryd.prog 27 c27 := ⟨⟨Tryd.f27, _, c27.code, Tryd.func27, rfl, by kernel_rfl, rfl, by kernel_rfl, by kernel_rfl⟩⟩
/- slices.Collect[raddle/api.Run] -/
def c32 : AFun := ⟨
  .seq (.ops [⟨(some 2), none, .mov (.const (.slice none 0 0))⟩] [0])
  (.seq (.ops [⟨(some 3), none, .mov (.tmp 0)⟩,
      ⟨(some 4), none, .callF 51 [(.const (.slice none 0 0)), (.tmp 3)]⟩,
      ⟨(some 2), none, .mov (.tmp 4)⟩] [2])
  (.ret)),
  5, [(2, none)], true⟩
theorem ok32 : FunOK Tryd.prog 32 c32 := ⟨⟨Tryd.f32, _, c32.code, Tryd.func32, rfl, by kernel_rfl, rfl, by kernel_rfl, by kernel_rfl⟩⟩
/- raddle/warp.runs -/
def c33 : AFun := ⟨
  .seq (.ops [⟨(some 1), none, .box 22 (.tmp 0)⟩,
      ⟨(some 2), none, .mov (.const .nilFunc)⟩] [1])
  (.seq (.ops [⟨(some 3), none, .mkFn 52 [] [(.tmp 1)]⟩,
      ⟨(some 2), none, .mov (.tmp 3)⟩] [2])
  (.ret)),
  4, [(2, none)], true⟩
theorem ok33 : FunOK Tryd.prog 33 c33 := ⟨⟨Tryd.f33, _, c33.code, Tryd.func33, rfl, by kernel_rfl, rfl, by kernel_rfl, by kernel_rfl⟩⟩
/- (*strings.Builder).WriteString -/
def c34 : AFun := ⟨
  .seq (.ops [⟨(some 4), none, .mov (.const (.int .i64 0))⟩,
      ⟨(some 5), none, .mov (.const .nilIface)⟩] [0, 1])
  (.seq (.ops [⟨(some 6), none, .mov (.tmp 0)⟩,
      ⟨(some 7), none, .callF 53 [(.tmp 6)]⟩] [0, 1])
  (.seq (.ops [⟨(some 8), none, .mov (.tmp 0)⟩,
      ⟨(some 9), none, .mov (.tmp 0)⟩,
      ⟨(some 10), none, .nilChk (.tmp 9)⟩,
      ⟨(some 11), none, .fldA 1 (.tmp 10)⟩,
      ⟨(some 12), none, .load none (.tmp 11)⟩,
      ⟨(some 13), none, .mov (.tmp 1)⟩,
      ⟨(some 14), none, .app 5 1 1 (.tmp 12) (.tmp 13)⟩,
      ⟨(some 15), none, .nilChk (.tmp 8)⟩,
      ⟨(some 16), none, .fldA 1 (.tmp 15)⟩,
      ⟨none, none, .store 1 (.tmp 16) (.tmp 14)⟩] [1])
  (.seq (.ops [⟨(some 17), none, .mov (.tmp 1)⟩,
      ⟨(some 18), none, .len true (.tmp 17)⟩,
      ⟨(some 4), none, .mov (.tmp 18)⟩,
      ⟨(some 5), none, .mov (.const .nilIface)⟩] [4, 5])
  (.ret)))),
  19, [(4, none), (5, none)], false⟩
theorem ok34 : FunOK Tryd.prog 34 c34 := ⟨⟨Tryd.f34, _, c34.code, Tryd.func34, rfl, by kernel_rfl, rfl, by kernel_rfl, by kernel_rfl⟩⟩
/- (*strings.Builder).Len -/
def c35 : AFun := ⟨
  .seq (.ops [⟨(some 2), none, .mov (.const (.int .i64 0))⟩] [0])
  (.seq (.ops [⟨(some 3), none, .mov (.tmp 0)⟩,
      ⟨(some 4), none, .nilChk (.tmp 3)⟩,
      ⟨(some 5), none, .fldA 1 (.tmp 4)⟩,
      ⟨(some 6), none, .load none (.tmp 5)⟩,
      ⟨(some 7), none, .len false (.tmp 6)⟩,
      ⟨(some 2), none, .mov (.tmp 7)⟩] [2])
  (.ret)),
  8, [(2, none)], true⟩
theorem ok35 : FunOK Tryd.prog 35 c35 := ⟨⟨Tryd.f35, _, c35.code, Tryd.func35, rfl, by kernel_rfl, rfl, by kernel_rfl, by kernel_rfl⟩⟩
/- strconv.Itoa -/
def c36 : AFun := ⟨
  .seq (.ops [⟨(some 2), none, .mov (.const (.string ⟨#[]⟩))⟩] [0])
  (.seq (.ops [⟨(some 3), none, .mov (.tmp 0)⟩,
      ⟨(some 4), none, .callF 54 [(.tmp 3)]⟩,
      ⟨(some 2), none, .mov (.tmp 4)⟩] [2])
  (.ret)),
  5, [(2, none)], true⟩
theorem ok36 : FunOK Tryd.prog 36 c36 := ⟨⟨Tryd.f36, _, c36.code, Tryd.func36, rfl, by kernel_rfl, rfl, by kernel_rfl, by kernel_rfl⟩⟩
/- (*strings.Builder).String -/
def c37 : AFun := ⟨
  .seq (.ops [⟨(some 2), none, .mov (.const (.string ⟨#[]⟩))⟩] [0])
  (.seq (.draw [⟨(some 3), none, .mov (.tmp 0)⟩,
      ⟨(some 4), none, .nilChk (.tmp 3)⟩,
      ⟨(some 5), none, .fldA 1 (.tmp 4)⟩,
      ⟨(some 6), none, .load none (.tmp 5)⟩,
      ⟨(some 7), none, .sdata (.tmp 6)⟩,
      ⟨(some 8), none, .mov (.tmp 0)⟩,
      ⟨(some 9), none, .nilChk (.tmp 8)⟩,
      ⟨(some 10), none, .fldA 1 (.tmp 9)⟩,
      ⟨(some 11), none, .load none (.tmp 10)⟩,
      ⟨(some 12), none, .len false (.tmp 11)⟩] [⟨(some 13), none, .ustr 5 (.tmp 7) (.tmp 12)⟩,
      ⟨(some 2), none, .mov (.tmp 13)⟩] [[], [], [], [], [], [], [], [], [], []] [2])
  (.ret)),
  14, [(2, none)], false⟩
theorem ok37 : FunOK Tryd.prog 37 c37 := ⟨⟨Tryd.f37, _, c37.code, Tryd.func37, rfl, by kernel_rfl, rfl, by kernel_rfl, by kernel_rfl⟩⟩
/- slices.ContainsFunc[[]int,int] -/
def c39 : AFun := ⟨
  .seq (.ops [⟨(some 4), none, .mov (.const (.bool false))⟩] [0, 1])
  (.seq (.ops [⟨(some 5), none, .mov (.tmp 0)⟩,
      ⟨(some 6), none, .mov (.tmp 1)⟩,
      ⟨(some 7), none, .callF 55 [(.tmp 5), (.tmp 6)]⟩,
      ⟨(some 8), none, .bin .geq (.tmp 7) (.const (.int .i64 0))⟩,
      ⟨(some 4), none, .mov (.tmp 8)⟩] [4])
  (.ret)),
  9, [(4, none)], true⟩
theorem ok39 : FunOK Tryd.prog 39 c39 := ⟨⟨Tryd.f39, _, c39.code, Tryd.func39, rfl, by kernel_rfl, rfl, by kernel_rfl, by kernel_rfl⟩⟩
/- raddle/warp.Check$1 -/
def c40 : AFun := ⟨
  .seq (.ops [⟨(some 2), none, .mov (.const (.bool false))⟩] [0])
  (.seq (.ops [⟨(some 3), none, .mov (.tmp 0)⟩,
      ⟨(some 4), none, .callF 41 [(.tmp 3)]⟩,
      ⟨(some 5), none, .un .not (.tmp 4)⟩,
      ⟨(some 2), none, .mov (.tmp 5)⟩] [2])
  (.ret)),
  6, [(2, none)], true⟩
theorem ok40 : FunOK Tryd.prog 40 c40 := ⟨⟨Tryd.f40, _, c40.code, Tryd.func40, rfl, by kernel_rfl, rfl, by kernel_rfl, by kernel_rfl⟩⟩
/- raddle/warp.colour -/
def c41 : AFun := ⟨
  .seq (.ops [⟨(some 2), none, .mov (.const (.bool false))⟩] [0])
  (.seq (.ops [⟨(some 3), none, .mov (.tmp 0)⟩,
      ⟨(some 4), none, .bin .geq (.tmp 3) (.const (.int .i64 0))⟩,
      ⟨(some 5), none, .mov (.tmp 4)⟩,
      ⟨(some 6), (some (5, true)), .mov (.tmp 0)⟩,
      ⟨(some 7), (some (5, true)), .bin .leq (.tmp 6) (.const (.int .i64 15))⟩,
      ⟨(some 8), none, .pick (.tmp 5) (.tmp 7) (.const (.bool false))⟩,
      ⟨(some 2), none, .mov (.tmp 8)⟩] [2])
  (.ret)),
  9, [(2, none)], true⟩
theorem ok41 : FunOK Tryd.prog 41 c41 := ⟨⟨Tryd.f41, _, c41.code, Tryd.func41, rfl, by kernel_rfl, rfl, by kernel_rfl, by kernel_rfl⟩⟩
/- slices.Equal[[]int,int] -/
def c42l0 : AC :=
  .seq (.ops [⟨(some 14), none, .bin .lss (.tmp 13) (.tmp 12)⟩] [0, 1, 12, 13, 14])
      (.seq (.cond (.tmp 14)
        (.skip)
        (.exit 0))
      (.seq (.block 1
        (.seq (.ops [⟨(some 15), none, .mov (.tmp 13)⟩,
            ⟨(some 5), none, .mov (.tmp 15)⟩] [0, 1, 5, 12, 13])
        (.seq (.draw [⟨(some 16), none, .mov (.tmp 0)⟩,
            ⟨(some 17), none, .mov (.tmp 5)⟩,
            ⟨(some 18), none, .idxS 1 (.tmp 16) (.tmp 17)⟩,
            ⟨(some 19), none, .load none (.tmp 18)⟩,
            ⟨(some 20), none, .mov (.tmp 1)⟩,
            ⟨(some 21), none, .mov (.tmp 5)⟩,
            ⟨(some 22), none, .idxS 1 (.tmp 20) (.tmp 21)⟩,
            ⟨(some 23), none, .load none (.tmp 22)⟩] [⟨(some 24), none, .bin .neq (.tmp 19) (.tmp 23)⟩] [[], [], [], [], [], [], [], []] [0, 1, 12, 13, 24])
        (.cond (.tmp 24)
          (.seq (.ops [⟨(some 4), none, .mov (.const (.bool false))⟩] [4])
          (.ret))
          (.skip)))))
      (.ops [⟨(some 25), none, .bin .add (.tmp 13) (.const (.int .i64 1))⟩,
          ⟨(some 13), none, .mov (.tmp 25)⟩] [0, 1, 12, 13])))
def c42 : AFun := ⟨
  .seq (.ops [⟨(some 4), none, .mov (.const (.bool false))⟩] [0, 1])
  (.seq (.seq (.ops [⟨(some 6), none, .mov (.tmp 0)⟩,
      ⟨(some 7), none, .len false (.tmp 6)⟩,
      ⟨(some 8), none, .mov (.tmp 1)⟩,
      ⟨(some 9), none, .len false (.tmp 8)⟩,
      ⟨(some 10), none, .bin .neq (.tmp 7) (.tmp 9)⟩] [0, 1, 10])
  (.cond (.tmp 10)
    (.seq (.ops [⟨(some 4), none, .mov (.const (.bool false))⟩] [4])
    (.ret))
    (.skip)))
  (.seq (.seq (.ops [⟨(some 11), none, .mov (.tmp 0)⟩,
      ⟨(some 12), none, .len false (.tmp 11)⟩,
      ⟨(some 13), none, .mov (.const (.int .i64 0))⟩] [0, 1, 12, 13])
  (.block 0
    (.loop [0, 1, 12, 13]
      c42l0)))
  (.seq (.ops [⟨(some 4), none, .mov (.const (.bool true))⟩] [4])
  (.ret)))),
  26, [(4, none)], true⟩
theorem ok42 : FunOK Tryd.prog 42 c42 := ⟨⟨Tryd.f42, _, c42.code, Tryd.func42, rfl, by kernel_rfl, rfl, by kernel_rfl, by kernel_rfl⟩⟩
/- raddle/warp.wind -/
def c43l0 : AC :=
  .seq (.ops [⟨(some 11), none, .bin .lss (.tmp 10) (.tmp 9)⟩] [0, 1, 7, 9, 10, 11])
      (.seq (.cond (.tmp 11)
        (.skip)
        (.exit 0))
      (.seq (.block 1
        (.seq (.ops [⟨(some 12), none, .mov (.tmp 10)⟩,
            ⟨(some 8), none, .mov (.tmp 12)⟩] [0, 1, 7, 8, 9, 10])
        (.ops [⟨(some 13), none, .mov (.tmp 7)⟩,
            ⟨(some 14), none, .mov (.tmp 0)⟩,
            ⟨(some 15), none, .mov (.tmp 1)⟩,
            ⟨(some 16), none, .mov (.tmp 8)⟩,
            ⟨(some 17), none, .callI [(95, 114), (96, 116)] (.tmp 14) [(.tmp 15), (.tmp 16)]⟩,
            ⟨(some 18), none, .app 3 1 8 (.tmp 13) (.tmp 17)⟩,
            ⟨(some 7), none, .mov (.tmp 18)⟩] [0, 1, 7, 9, 10])))
      (.ops [⟨(some 19), none, .bin .add (.tmp 10) (.const (.int .i64 1))⟩,
          ⟨(some 10), none, .mov (.tmp 19)⟩] [0, 1, 7, 9, 10])))
def c43 : AFun := ⟨
  .seq (.ops [⟨(some 6), none, .mov (.const (.slice none 0 0))⟩] [0, 1, 2])
  (.seq (.ops [⟨(some 7), none, .mov (.const (.slice none 0 0))⟩] [0, 1, 2, 7])
  (.seq (.seq (.ops [⟨(some 9), none, .mov (.tmp 2)⟩,
      ⟨(some 10), none, .mov (.const (.int .i64 0))⟩] [0, 1, 7, 9, 10])
  (.block 0
    (.loop [0, 1, 7, 9, 10]
      c43l0)))
  (.seq (.ops [⟨(some 20), none, .mov (.tmp 7)⟩,
      ⟨(some 6), none, .mov (.tmp 20)⟩] [6])
  (.ret)))),
  21, [(6, none)], true⟩
theorem ok43 : FunOK Tryd.prog 43 c43 := ⟨⟨Tryd.f43, _, c43.code, Tryd.func43, rfl, by kernel_rfl, rfl, by kernel_rfl, by kernel_rfl⟩⟩
/- raddle/warp.of -/
def c44 : AFun := ⟨
  .seq (.ops [⟨(some 2), none, .mov (.const .nilIface)⟩] [0])
  (.seq (.seq (.ops [⟨(some 3), none, .mov (.tmp 0)⟩] [3])
  (.cond (.tmp 3)
    (.seq (.ops [⟨(some 4), none, .build [] []⟩,
        ⟨(some 5), none, .mkIf 95 (.tmp 4)⟩,
        ⟨(some 2), none, .mov (.tmp 5)⟩] [2])
    (.ret))
    (.skip)))
  (.seq (.ops [⟨(some 6), none, .build [] []⟩,
      ⟨(some 7), none, .mkIf 96 (.tmp 6)⟩,
      ⟨(some 2), none, .mov (.tmp 7)⟩] [2])
  (.ret))),
  8, [(2, none)], true⟩
theorem ok44 : FunOK Tryd.prog 44 c44 := ⟨⟨Tryd.f44, _, c44.code, Tryd.func44, rfl, by kernel_rfl, rfl, by kernel_rfl, by kernel_rfl⟩⟩
/- slices.Clone[[]int,int] -/
def c45 : AFun := ⟨
  .seq (.ops [⟨(some 2), none, .mov (.const (.slice none 0 0))⟩] [0])
  (.seq (.seq (.ops [⟨(some 3), none, .mov (.tmp 0)⟩,
      ⟨(some 4), none, .eqNil 1 false (.tmp 3) (.const (.slice none 0 0))⟩] [0, 4])
  (.cond (.tmp 4)
    (.seq (.ops [⟨(some 2), none, .mov (.const (.slice none 0 0))⟩] [2])
    (.ret))
    (.skip)))
  (.seq (.ops [⟨(some 5), none, .mkRow 3 1 0 [(.int .i64 0)] []⟩,
      ⟨(some 6), none, .mov (.tmp 0)⟩,
      ⟨(some 7), none, .app 3 1 8 (.tmp 5) (.tmp 6)⟩,
      ⟨(some 2), none, .mov (.tmp 7)⟩] [2])
  (.ret))),
  8, [(2, none)], true⟩
theorem ok45 : FunOK Tryd.prog 45 c45 := ⟨⟨Tryd.f45, _, c45.code, Tryd.func45, rfl, by kernel_rfl, rfl, by kernel_rfl, by kernel_rfl⟩⟩
/- slices.AppendSeq[[]raddle/api.Run,raddle/api.Run] -/
def c51 : AFun := ⟨
  .seq (.ops [⟨(some 2), none, .box 24 (.tmp 0)⟩,
      ⟨(some 4), none, .mov (.const (.slice none 0 0))⟩] [1, 2, 4])
  (.seq (.seq (.ops [⟨(some 6), none, .mov (.tmp 1)⟩] [2, 4, 6])
  (.block 0
    (.rangeF (.tmp 6) [7] [2, 4]
      (.ops [⟨(some 5), none, .alloc 58 [(2, (.int .i64 0))]⟩,
          ⟨none, none, .store 2 (.tmp 5) (.tmp 7)⟩] [2, 5])
      (.block 1
        (.ops [⟨(some 8), none, .load none (.tmp 2)⟩,
            ⟨(some 9), none, .load (some 2) (.tmp 5)⟩,
            ⟨(some 10), none, .mkRow 58 2 1 [(.int .i64 0), (.int .i64 0)] [(0, 2, (.tmp 9))]⟩,
            ⟨(some 11), none, .app 58 2 16 (.tmp 8) (.tmp 10)⟩,
            ⟨none, none, .store 1 (.tmp 2) (.tmp 11)⟩] [])))))
  (.seq (.ops [⟨(some 12), none, .load none (.tmp 2)⟩,
      ⟨(some 4), none, .mov (.tmp 12)⟩] [4])
  (.ret))),
  13, [(4, none)], true⟩
theorem ok51 : FunOK Tryd.prog 51 c51 := ⟨⟨Tryd.f51, _, c51.code, Tryd.func51, rfl, by kernel_rfl, rfl, by kernel_rfl, by kernel_rfl⟩⟩
/- raddle/warp.runs$1 -/
def c52l0 : AC :=
  .seq (.seq (.draw [⟨(some 11), none, .mov (.tmp 4)⟩,
                ⟨(some 12), none, .load none (.tmp 1)⟩,
                ⟨(some 13), none, .len false (.tmp 12)⟩,
                ⟨(some 14), none, .bin .lss (.tmp 11) (.tmp 13)⟩,
                ⟨(some 15), none, .mov (.tmp 14)⟩,
                ⟨(some 16), (some (15, true)), .load none (.tmp 1)⟩,
                ⟨(some 17), (some (15, true)), .mov (.tmp 4)⟩,
                ⟨(some 18), (some (15, true)), .idxS 1 (.tmp 16) (.tmp 17)⟩,
                ⟨(some 19), (some (15, true)), .load none (.tmp 18)⟩,
                ⟨(some 20), (some (15, true)), .load none (.tmp 1)⟩,
                ⟨(some 21), (some (15, true)), .mov (.tmp 3)⟩,
                ⟨(some 22), (some (15, true)), .idxS 1 (.tmp 20) (.tmp 21)⟩,
                ⟨(some 23), (some (15, true)), .load none (.tmp 22)⟩] [⟨(some 24), (some (15, true)), .bin .eql (.tmp 19) (.tmp 23)⟩,
                ⟨(some 25), none, .pick (.tmp 15) (.tmp 24) (.const (.bool false))⟩] [[], [], [], [], [], [], [], [], [], [], [], [], []] [0, 1, 3, 4, 25])
            (.cond (.tmp 25)
              (.skip)
              (.exit 2)))
            (.block 3
              (.ops [⟨(some 26), none, .mov (.tmp 4)⟩,
                  ⟨(some 27), none, .bin .add (.tmp 26) (.const (.int .i64 1))⟩,
                  ⟨(some 4), none, .mov (.tmp 27)⟩] [0, 1, 3, 4]))
def c52l1 : AC :=
  .seq (.seq (.ops [⟨(some 5), none, .mov (.tmp 3)⟩,
          ⟨(some 6), none, .load none (.tmp 1)⟩,
          ⟨(some 7), none, .len false (.tmp 6)⟩,
          ⟨(some 8), none, .bin .lss (.tmp 5) (.tmp 7)⟩] [0, 1, 3, 8])
      (.cond (.tmp 8)
        (.skip)
        (.exit 0)))
      (.block 1
        (.seq (.ops [⟨(some 9), none, .mov (.tmp 3)⟩,
            ⟨(some 10), none, .bin .add (.tmp 9) (.const (.int .i64 1))⟩,
            ⟨(some 4), none, .mov (.tmp 10)⟩] [0, 1, 3, 4])
        (.seq (.block 2
          (.loop [0, 1, 3, 4]
            c52l0))
        (.seq (.seq (.ops [⟨(some 28), none, .mov (.tmp 0)⟩,
            ⟨(some 29), none, .mov (.tmp 4)⟩,
            ⟨(some 30), none, .mov (.tmp 3)⟩,
            ⟨(some 31), none, .bin .sub (.tmp 29) (.tmp 30)⟩,
            ⟨(some 32), none, .load none (.tmp 1)⟩,
            ⟨(some 33), none, .mov (.tmp 3)⟩,
            ⟨(some 34), none, .idxS 1 (.tmp 32) (.tmp 33)⟩,
            ⟨(some 35), none, .load none (.tmp 34)⟩,
            ⟨(some 36), none, .build [(.int .i64 0), (.int .i64 0)] [(0, 1, (.tmp 31)), (1, 1, (.tmp 35))]⟩,
            ⟨(some 37), none, .callV (.tmp 28) [(.tmp 36)]⟩,
            ⟨(some 38), none, .un .not (.tmp 37)⟩] [0, 1, 4, 38])
        (.cond (.tmp 38)
          (.ret)
          (.skip)))
        (.ops [⟨(some 39), none, .mov (.tmp 4)⟩,
            ⟨(some 3), none, .mov (.tmp 39)⟩] [0, 1, 3])))))
def c52 : AFun := ⟨
  .seq (.ops [⟨(some 3), none, .mov (.const (.int .i64 0))⟩] [0, 1, 3])
  (.block 0
    (.loop [0, 1, 3]
      c52l1)),
  40, [], false⟩
theorem ok52 : FunOK Tryd.prog 52 c52 := ⟨⟨Tryd.f52, _, c52.code, Tryd.func52, rfl, by kernel_rfl, rfl, by kernel_rfl, by kernel_rfl⟩⟩
/- (*strings.Builder).copyCheck (1 operations that the interpreter lacks) -/
def c53 : AFun := ⟨
  .seq (.ops [⟨(some 2), none, .mov (.tmp 0)⟩,
      ⟨(some 3), none, .nilChk (.tmp 2)⟩,
      ⟨(some 4), none, .fldA 0 (.tmp 3)⟩,
      ⟨(some 5), none, .load none (.tmp 4)⟩,
      ⟨(some 6), none, .eqNil 0 false (.tmp 5) (.const (.pointer none))⟩] [0, 6])
  (.cond (.tmp 6)
    (.ops [⟨(some 7), none, .mov (.tmp 0)⟩,
        ⟨(some 8), none, .mov (.tmp 0)⟩,
        ⟨(some 9), none, .toUns (.tmp 8)⟩,
        ⟨(some 10), none, .callF 61 [(.tmp 9)]⟩,
        ⟨(some 11), none, .fromUns 66 2 (.tmp 10)⟩,
        ⟨(some 12), none, .nilChk (.tmp 7)⟩,
        ⟨(some 13), none, .fldA 0 (.tmp 12)⟩,
        ⟨none, none, .store 1 (.tmp 13) (.tmp 11)⟩] [])
    (.seq (.ops [⟨(some 14), none, .mov (.tmp 0)⟩,
        ⟨(some 15), none, .nilChk (.tmp 14)⟩,
        ⟨(some 16), none, .fldA 0 (.tmp 15)⟩,
        ⟨(some 17), none, .load none (.tmp 16)⟩,
        ⟨(some 18), none, .mov (.tmp 0)⟩,
        ⟨(some 19), none, .eqPtr true (.tmp 17) (.tmp 18)⟩] [19])
    (.cond (.tmp 19)
      (.bad)
      (.skip)))),
  20, [], false⟩
theorem ok53 : FunOK Tryd.prog 53 c53 := ⟨⟨Tryd.f53, _, c53.code, Tryd.func53, rfl, by kernel_rfl, rfl, by kernel_rfl, by kernel_rfl⟩⟩
/- internal/strconv.Itoa -/
def c54 : AFun := ⟨
  .seq (.ops [⟨(some 2), none, .mov (.const (.string ⟨#[]⟩))⟩] [0])
  (.seq (.ops [⟨(some 3), none, .mov (.tmp 0)⟩,
      ⟨(some 4), none, .callF 62 [(.tmp 3), (.const (.int .i64 10))]⟩,
      ⟨(some 2), none, .mov (.tmp 4)⟩] [2])
  (.ret)),
  5, [(2, none)], true⟩
theorem ok54 : FunOK Tryd.prog 54 c54 := ⟨⟨Tryd.f54, _, c54.code, Tryd.func54, rfl, by kernel_rfl, rfl, by kernel_rfl, by kernel_rfl⟩⟩
/- slices.IndexFunc[[]int,int] -/
def c55l0 : AC :=
  .seq (.ops [⟨(some 9), none, .bin .lss (.tmp 8) (.tmp 7)⟩] [0, 1, 7, 8, 9])
      (.seq (.cond (.tmp 9)
        (.skip)
        (.exit 0))
      (.seq (.block 1
        (.seq (.ops [⟨(some 10), none, .mov (.tmp 8)⟩,
            ⟨(some 5), none, .mov (.tmp 10)⟩] [0, 1, 5, 7, 8])
        (.seq (.ops [⟨(some 11), none, .mov (.tmp 1)⟩,
            ⟨(some 12), none, .mov (.tmp 0)⟩,
            ⟨(some 13), none, .mov (.tmp 5)⟩,
            ⟨(some 14), none, .idxS 1 (.tmp 12) (.tmp 13)⟩,
            ⟨(some 15), none, .load none (.tmp 14)⟩,
            ⟨(some 16), none, .callV (.tmp 11) [(.tmp 15)]⟩] [0, 1, 5, 7, 8, 16])
        (.cond (.tmp 16)
          (.seq (.ops [⟨(some 17), none, .mov (.tmp 5)⟩,
              ⟨(some 4), none, .mov (.tmp 17)⟩] [4])
          (.ret))
          (.skip)))))
      (.ops [⟨(some 18), none, .bin .add (.tmp 8) (.const (.int .i64 1))⟩,
          ⟨(some 8), none, .mov (.tmp 18)⟩] [0, 1, 7, 8])))
def c55 : AFun := ⟨
  .seq (.ops [⟨(some 4), none, .mov (.const (.int .i64 0))⟩] [0, 1])
  (.seq (.seq (.ops [⟨(some 6), none, .mov (.tmp 0)⟩,
      ⟨(some 7), none, .len false (.tmp 6)⟩,
      ⟨(some 8), none, .mov (.const (.int .i64 0))⟩] [0, 1, 7, 8])
  (.block 0
    (.loop [0, 1, 7, 8]
      c55l0)))
  (.seq (.ops [⟨(some 4), none, .mov (.const (.int .i64 (-1)))⟩] [4])
  (.ret))),
  19, [(4, none)], true⟩
theorem ok55 : FunOK Tryd.prog 55 c55 := ⟨⟨Tryd.f55, _, c55.code, Tryd.func55, rfl, by kernel_rfl, rfl, by kernel_rfl, by kernel_rfl⟩⟩
/- internal/strconv.FormatInt -/
def c62 : AFun := ⟨
  .seq (.ops [⟨(some 4), none, .mov (.const (.string ⟨#[]⟩))⟩] [0, 1])
  (.seq (.seq (.ops [⟨(some 10), none, .mov (.tmp 1)⟩,
      ⟨(some 11), none, .bin .eql (.tmp 10) (.const (.int .i64 10))⟩] [0, 1, 11])
  (.cond (.tmp 11)
    (.seq (.seq (.ops [⟨(some 12), none, .mov (.tmp 0)⟩,
        ⟨(some 13), none, .bin .leq (.const (.int .i64 0)) (.tmp 12)⟩,
        ⟨(some 14), none, .mov (.tmp 13)⟩,
        ⟨(some 15), (some (14, true)), .mov (.tmp 0)⟩,
        ⟨(some 16), (some (14, true)), .bin .lss (.tmp 15) (.const (.int .i64 100))⟩,
        ⟨(some 17), none, .pick (.tmp 14) (.tmp 16) (.const (.bool false))⟩] [0, 17])
    (.cond (.tmp 17)
      (.seq (.ops [⟨(some 18), none, .mov (.tmp 0)⟩,
          ⟨(some 19), none, .callF 74 [(.tmp 18)]⟩,
          ⟨(some 4), none, .mov (.tmp 19)⟩] [4])
      (.ret))
      (.skip)))
    (.seq (.ops [⟨(some 5), none, .alloc 121 [(24, (.int .u8 0))]⟩] [0, 5])
    (.seq (.ops [⟨(some 20), none, .mov (.tmp 0)⟩,
        ⟨(some 21), none, .convI .u64 (.tmp 20)⟩,
        ⟨(some 6), none, .mov (.tmp 21)⟩] [0, 5, 6])
    (.seq (.seq (.ops [⟨(some 22), none, .mov (.tmp 0)⟩,
        ⟨(some 23), none, .bin .lss (.tmp 22) (.const (.int .i64 0))⟩] [0, 5, 6, 23])
    (.cond (.tmp 23)
      (.ops [⟨(some 24), none, .mov (.tmp 6)⟩,
          ⟨(some 25), none, .un .neg (.tmp 24)⟩,
          ⟨(some 6), none, .mov (.tmp 25)⟩] [0, 5, 6])
      (.skip)))
    (.seq (.ops [⟨(some 26), none, .mov (.tmp 6)⟩,
        ⟨(some 27), none, .callF 75 [(.tmp 26)]⟩,
        ⟨(some 7), none, .mov (.tmp 27)⟩] [0, 5, 6, 7])
    (.seq (.ops [⟨(some 28), none, .mov (.tmp 7)⟩,
        ⟨(some 29), none, .bin .add (.const (.int .i64 1)) (.tmp 28)⟩,
        ⟨(some 30), none, .slcA 24 1 (.tmp 5) (some (.const (.int .i64 1))) (some (.tmp 29))⟩,
        ⟨(some 31), none, .mov (.tmp 6)⟩,
        ⟨(some 32), none, .callF 76 [(.tmp 30), (.tmp 31)]⟩] [0, 5, 7])
    (.seq (.seq (.ops [⟨(some 33), none, .mov (.tmp 0)⟩,
        ⟨(some 34), none, .bin .lss (.tmp 33) (.const (.int .i64 0))⟩] [5, 7, 34])
    (.cond (.tmp 34)
      (.seq (.ops [⟨(some 35), none, .idxA 24 1 (.tmp 5) (.const (.int .i64 0))⟩,
          ⟨none, none, .store 1 (.tmp 35) (.const (.int .u8 45))⟩] [5, 7])
      (.seq (.ops [⟨(some 36), none, .mov (.tmp 7)⟩,
          ⟨(some 37), none, .bin .add (.const (.int .i64 1)) (.tmp 36)⟩,
          ⟨(some 38), none, .slcA 24 1 (.tmp 5) none (some (.tmp 37))⟩,
          ⟨(some 39), none, .b2s (.tmp 38)⟩,
          ⟨(some 4), none, .mov (.tmp 39)⟩] [4])
      (.ret)))
      (.skip)))
    (.seq (.ops [⟨(some 40), none, .mov (.tmp 7)⟩,
        ⟨(some 41), none, .bin .add (.const (.int .i64 1)) (.tmp 40)⟩,
        ⟨(some 42), none, .slcA 24 1 (.tmp 5) (some (.const (.int .i64 1))) (some (.tmp 41))⟩,
        ⟨(some 43), none, .b2s (.tmp 42)⟩,
        ⟨(some 4), none, .mov (.tmp 43)⟩] [4])
    (.ret)))))))))
    (.skip)))
  (.seq (.ops [⟨(some 45), none, .mov (.tmp 0)⟩,
      ⟨(some 46), none, .convI .u64 (.tmp 45)⟩,
      ⟨(some 47), none, .mov (.tmp 1)⟩,
      ⟨(some 48), none, .mov (.tmp 0)⟩,
      ⟨(some 49), none, .bin .lss (.tmp 48) (.const (.int .i64 0))⟩,
      ⟨(some 50), none, .callF 77 [(.const (.slice none 0 0)), (.tmp 46), (.tmp 47), (.tmp 49), (.const (.bool false))]⟩,
      ⟨(some 44), none, .mov (.tmp 50)⟩,
      ⟨(some 51), none, .ext (.tmp 44) 0⟩,
      ⟨(some 52), none, .ext (.tmp 44) 1⟩,
      ⟨(some 8), none, .mov (.tmp 51)⟩,
      ⟨(some 9), none, .mov (.tmp 52)⟩] [9])
  (.seq (.ops [⟨(some 53), none, .mov (.tmp 9)⟩,
      ⟨(some 4), none, .mov (.tmp 53)⟩] [4])
  (.ret)))),
  54, [(4, none)], true⟩
theorem ok62 : FunOK Tryd.prog 62 c62 := ⟨⟨Tryd.f62, _, c62.code, Tryd.func62, rfl, by kernel_rfl, rfl, by kernel_rfl, by kernel_rfl⟩⟩
/- internal/strconv.small -/
def c74 : AFun := ⟨
  .seq (.ops [⟨(some 2), none, .mov (.const (.string ⟨#[]⟩))⟩] [0])
  (.seq (.seq (.ops [⟨(some 3), none, .mov (.tmp 0)⟩,
      ⟨(some 4), none, .bin .lss (.tmp 3) (.const (.int .i64 10))⟩] [0, 4])
  (.cond (.tmp 4)
    (.seq (.ops [⟨(some 5), none, .mov (.tmp 0)⟩,
        ⟨(some 6), none, .mov (.tmp 0)⟩,
        ⟨(some 7), none, .bin .add (.tmp 6) (.const (.int .i64 1))⟩,
        ⟨(some 8), none, .slcS (.const (.string ⟨#[48, 49, 50, 51, 52, 53, 54, 55, 56, 57, 97, 98, 99, 100, 101, 102, 103, 104, 105, 106, 107, 108, 109, 110, 111, 112, 113, 114, 115, 116, 117, 118, 119, 120, 121, 122]⟩)) (some (.tmp 5)) (some (.tmp 7))⟩,
        ⟨(some 2), none, .mov (.tmp 8)⟩] [2])
    (.ret))
    (.skip)))
  (.seq (.ops [⟨(some 9), none, .mov (.tmp 0)⟩,
      ⟨(some 10), none, .bin .mul (.tmp 9) (.const (.int .i64 2))⟩,
      ⟨(some 11), none, .mov (.tmp 0)⟩,
      ⟨(some 12), none, .bin .mul (.tmp 11) (.const (.int .i64 2))⟩,
      ⟨(some 13), none, .bin .add (.tmp 12) (.const (.int .i64 2))⟩,
      ⟨(some 14), none, .slcS (.const (.string ⟨#[48, 48, 48, 49, 48, 50, 48, 51, 48, 52, 48, 53, 48, 54, 48, 55, 48, 56, 48, 57, 49, 48, 49, 49, 49, 50, 49, 51, 49, 52, 49, 53, 49, 54, 49, 55, 49, 56, 49, 57, 50, 48, 50, 49, 50, 50, 50, 51, 50, 52, 50, 53, 50, 54, 50, 55, 50, 56, 50, 57, 51, 48, 51, 49, 51, 50, 51, 51, 51, 52, 51, 53, 51, 54, 51, 55, 51, 56, 51, 57, 52, 48, 52, 49, 52, 50, 52, 51, 52, 52, 52, 53, 52, 54, 52, 55, 52, 56, 52, 57, 53, 48, 53, 49, 53, 50, 53, 51, 53, 52, 53, 53, 53, 54, 53, 55, 53, 56, 53, 57, 54, 48, 54, 49, 54, 50, 54, 51, 54, 52, 54, 53, 54, 54, 54, 55, 54, 56, 54, 57, 55, 48, 55, 49, 55, 50, 55, 51, 55, 52, 55, 53, 55, 54, 55, 55, 55, 56, 55, 57, 56, 48, 56, 49, 56, 50, 56, 51, 56, 52, 56, 53, 56, 54, 56, 55, 56, 56, 56, 57, 57, 48, 57, 49, 57, 50, 57, 51, 57, 52, 57, 53, 57, 54, 57, 55, 57, 56, 57, 57]⟩)) (some (.tmp 10)) (some (.tmp 13))⟩,
      ⟨(some 2), none, .mov (.tmp 14)⟩] [2])
  (.ret))),
  15, [(2, none)], true⟩
theorem ok74 : FunOK Tryd.prog 74 c74 := ⟨⟨Tryd.f74, _, c74.code, Tryd.func74, rfl, by kernel_rfl, rfl, by kernel_rfl, by kernel_rfl⟩⟩
/- internal/strconv.numDigits -/
def c75 : AFun := ⟨
  .seq (.ops [⟨(some 2), none, .mov (.const (.int .i64 0))⟩] [0])
  (.seq (.ops [⟨(some 4), none, .mov (.tmp 0)⟩,
      ⟨(some 5), none, .callF 87 [(.tmp 4)]⟩,
      ⟨(some 6), none, .callF 86 [(.tmp 5)]⟩,
      ⟨(some 3), none, .mov (.tmp 6)⟩] [0, 3])
  (.seq (.ops [⟨(some 7), none, .mov (.tmp 3)⟩,
      ⟨(some 8), none, .mov (.tmp 0)⟩,
      ⟨(some 9), none, .mov (.tmp 3)⟩,
      ⟨(some 10), none, .idxA 20 1 (.global 3) (.tmp 9)⟩,
      ⟨(some 11), none, .load none (.tmp 10)⟩,
      ⟨(some 12), none, .bin .geq (.tmp 8) (.tmp 11)⟩,
      ⟨(some 13), none, .callF 88 [(.tmp 12)]⟩,
      ⟨(some 14), none, .bin .add (.tmp 7) (.tmp 13)⟩,
      ⟨(some 2), none, .mov (.tmp 14)⟩] [2])
  (.ret))),
  15, [(2, none)], true⟩
theorem ok75 : FunOK Tryd.prog 75 c75 := ⟨⟨Tryd.f75, _, c75.code, Tryd.func75, rfl, by kernel_rfl, rfl, by kernel_rfl, by kernel_rfl⟩⟩
/- internal/strconv.formatBase10 -/
def c76l0 : AC :=
  .seq (.seq (.ops [⟨(some 19), none, .mov (.tmp 4)⟩,
          ⟨(some 20), none, .bin .geq (.tmp 19) (.const (.int .i64 8))⟩] [0, 1, 4, 20])
      (.cond (.tmp 20)
        (.skip)
        (.exit 0)))
      (.block 1
        (.seq (.ops [⟨(some 21), none, .mov (.tmp 1)⟩,
            ⟨(some 22), none, .bin .rem (.tmp 21) (.const (.int .u64 100000000))⟩,
            ⟨(some 23), none, .convI .u32 (.tmp 22)⟩,
            ⟨(some 5), none, .mov (.tmp 23)⟩] [0, 1, 4, 5])
        (.seq (.ops [⟨(some 24), none, .mov (.tmp 1)⟩,
            ⟨(some 25), none, .bin .quo (.tmp 24) (.const (.int .u64 100000000))⟩,
            ⟨(some 1), none, .mov (.tmp 25)⟩] [0, 1, 4, 5])
        (.seq (.ops [⟨(some 26), none, .mov (.tmp 5)⟩,
            ⟨(some 27), none, .bin .quo (.tmp 26) (.const (.int .u32 10000))⟩,
            ⟨(some 28), none, .mov (.tmp 5)⟩,
            ⟨(some 29), none, .bin .rem (.tmp 28) (.const (.int .u32 10000))⟩,
            ⟨(some 6), none, .mov (.tmp 27)⟩,
            ⟨(some 7), none, .mov (.tmp 29)⟩] [0, 1, 4, 6, 7])
        (.seq (.ops [⟨(some 30), none, .mov (.tmp 7)⟩,
            ⟨(some 31), none, .bin .quo (.tmp 30) (.const (.int .u32 100))⟩,
            ⟨(some 32), none, .bin .mul (.tmp 31) (.const (.int .u32 2))⟩,
            ⟨(some 33), none, .mov (.tmp 7)⟩,
            ⟨(some 34), none, .bin .rem (.tmp 33) (.const (.int .u32 100))⟩,
            ⟨(some 35), none, .bin .mul (.tmp 34) (.const (.int .u32 2))⟩,
            ⟨(some 8), none, .mov (.tmp 32)⟩,
            ⟨(some 9), none, .mov (.tmp 35)⟩] [0, 1, 4, 6, 8, 9])
        (.seq (.ops [⟨(some 36), none, .mov (.tmp 6)⟩,
            ⟨(some 37), none, .bin .quo (.tmp 36) (.const (.int .u32 100))⟩,
            ⟨(some 38), none, .bin .mul (.tmp 37) (.const (.int .u32 2))⟩,
            ⟨(some 39), none, .mov (.tmp 6)⟩,
            ⟨(some 40), none, .bin .rem (.tmp 39) (.const (.int .u32 100))⟩,
            ⟨(some 41), none, .bin .mul (.tmp 40) (.const (.int .u32 2))⟩,
            ⟨(some 10), none, .mov (.tmp 38)⟩,
            ⟨(some 11), none, .mov (.tmp 41)⟩] [0, 1, 4, 8, 9, 10, 11])
        (.seq (.drawW [⟨⟨(some 42), none, .mov (.tmp 0)⟩, [], none⟩,
            ⟨⟨(some 43), none, .mov (.tmp 4)⟩, [0], none⟩,
            ⟨⟨(some 44), none, .bin .sub (.tmp 43) (.const (.int .i64 1))⟩, [0], none⟩,
            ⟨⟨(some 45), none, .mov (.tmp 0)⟩, [0, 1, 2], none⟩,
            ⟨⟨(some 46), none, .mov (.tmp 4)⟩, [0, 1, 2, 3], none⟩,
            ⟨⟨(some 47), none, .bin .sub (.tmp 46) (.const (.int .i64 2))⟩, [0, 1, 2, 3], none⟩,
            ⟨⟨(some 48), none, .mov (.tmp 9)⟩, [0, 1, 2, 3, 4, 5], none⟩,
            ⟨⟨(some 49), none, .bin .add (.tmp 48) (.const (.int .u32 1))⟩, [0, 1, 2, 3, 4, 5], none⟩,
            ⟨⟨(some 50), none, .idxStr (.const (.string ⟨#[48, 48, 48, 49, 48, 50, 48, 51, 48, 52, 48, 53, 48, 54, 48, 55, 48, 56, 48, 57, 49, 48, 49, 49, 49, 50, 49, 51, 49, 52, 49, 53, 49, 54, 49, 55, 49, 56, 49, 57, 50, 48, 50, 49, 50, 50, 50, 51, 50, 52, 50, 53, 50, 54, 50, 55, 50, 56, 50, 57, 51, 48, 51, 49, 51, 50, 51, 51, 51, 52, 51, 53, 51, 54, 51, 55, 51, 56, 51, 57, 52, 48, 52, 49, 52, 50, 52, 51, 52, 52, 52, 53, 52, 54, 52, 55, 52, 56, 52, 57, 53, 48, 53, 49, 53, 50, 53, 51, 53, 52, 53, 53, 53, 54, 53, 55, 53, 56, 53, 57, 54, 48, 54, 49, 54, 50, 54, 51, 54, 52, 54, 53, 54, 54, 54, 55, 54, 56, 54, 57, 55, 48, 55, 49, 55, 50, 55, 51, 55, 52, 55, 53, 55, 54, 55, 55, 55, 56, 55, 57, 56, 48, 56, 49, 56, 50, 56, 51, 56, 52, 56, 53, 56, 54, 56, 55, 56, 56, 56, 57, 57, 48, 57, 49, 57, 50, 57, 51, 57, 52, 57, 53, 57, 54, 57, 55, 57, 56, 57, 57]⟩)) (.tmp 49)⟩, [0, 1, 2, 3, 4, 5], none⟩,
            ⟨⟨(some 51), none, .mov (.tmp 9)⟩, [0, 1, 2, 3, 4, 5, 6, 7, 8], none⟩,
            ⟨⟨(some 52), none, .idxStr (.const (.string ⟨#[48, 48, 48, 49, 48, 50, 48, 51, 48, 52, 48, 53, 48, 54, 48, 55, 48, 56, 48, 57, 49, 48, 49, 49, 49, 50, 49, 51, 49, 52, 49, 53, 49, 54, 49, 55, 49, 56, 49, 57, 50, 48, 50, 49, 50, 50, 50, 51, 50, 52, 50, 53, 50, 54, 50, 55, 50, 56, 50, 57, 51, 48, 51, 49, 51, 50, 51, 51, 51, 52, 51, 53, 51, 54, 51, 55, 51, 56, 51, 57, 52, 48, 52, 49, 52, 50, 52, 51, 52, 52, 52, 53, 52, 54, 52, 55, 52, 56, 52, 57, 53, 48, 53, 49, 53, 50, 53, 51, 53, 52, 53, 53, 53, 54, 53, 55, 53, 56, 53, 57, 54, 48, 54, 49, 54, 50, 54, 51, 54, 52, 54, 53, 54, 54, 54, 55, 54, 56, 54, 57, 55, 48, 55, 49, 55, 50, 55, 51, 55, 52, 55, 53, 55, 54, 55, 55, 55, 56, 55, 57, 56, 48, 56, 49, 56, 50, 56, 51, 56, 52, 56, 53, 56, 54, 56, 55, 56, 56, 56, 57, 57, 48, 57, 49, 57, 50, 57, 51, 57, 52, 57, 53, 57, 54, 57, 55, 57, 56, 57, 57]⟩)) (.tmp 51)⟩, [0, 1, 2, 3, 4, 5, 6, 7, 8], none⟩,
            ⟨⟨(some 53), none, .idxS 1 (.tmp 42) (.tmp 44)⟩, [3, 4, 5, 9, 10], none⟩,
            ⟨⟨none, none, .store 1 (.tmp 53) (.tmp 50)⟩, [3, 4, 5, 9, 10], none⟩] [⟨(some 54), none, .idxS 1 (.tmp 45) (.tmp 47)⟩,
            ⟨none, none, .store 1 (.tmp 54) (.tmp 52)⟩] [0, 1, 4, 8, 10, 11])
        (.seq (.drawW [⟨⟨(some 55), none, .mov (.tmp 0)⟩, [], none⟩,
            ⟨⟨(some 56), none, .mov (.tmp 4)⟩, [0], none⟩,
            ⟨⟨(some 57), none, .bin .sub (.tmp 56) (.const (.int .i64 3))⟩, [0], none⟩,
            ⟨⟨(some 58), none, .mov (.tmp 0)⟩, [0, 1, 2], none⟩,
            ⟨⟨(some 59), none, .mov (.tmp 4)⟩, [0, 1, 2, 3], none⟩,
            ⟨⟨(some 60), none, .bin .sub (.tmp 59) (.const (.int .i64 4))⟩, [0, 1, 2, 3], none⟩,
            ⟨⟨(some 61), none, .mov (.tmp 8)⟩, [0, 1, 2, 3, 4, 5], none⟩,
            ⟨⟨(some 62), none, .bin .add (.tmp 61) (.const (.int .u32 1))⟩, [0, 1, 2, 3, 4, 5], none⟩,
            ⟨⟨(some 63), none, .idxStr (.const (.string ⟨#[48, 48, 48, 49, 48, 50, 48, 51, 48, 52, 48, 53, 48, 54, 48, 55, 48, 56, 48, 57, 49, 48, 49, 49, 49, 50, 49, 51, 49, 52, 49, 53, 49, 54, 49, 55, 49, 56, 49, 57, 50, 48, 50, 49, 50, 50, 50, 51, 50, 52, 50, 53, 50, 54, 50, 55, 50, 56, 50, 57, 51, 48, 51, 49, 51, 50, 51, 51, 51, 52, 51, 53, 51, 54, 51, 55, 51, 56, 51, 57, 52, 48, 52, 49, 52, 50, 52, 51, 52, 52, 52, 53, 52, 54, 52, 55, 52, 56, 52, 57, 53, 48, 53, 49, 53, 50, 53, 51, 53, 52, 53, 53, 53, 54, 53, 55, 53, 56, 53, 57, 54, 48, 54, 49, 54, 50, 54, 51, 54, 52, 54, 53, 54, 54, 54, 55, 54, 56, 54, 57, 55, 48, 55, 49, 55, 50, 55, 51, 55, 52, 55, 53, 55, 54, 55, 55, 55, 56, 55, 57, 56, 48, 56, 49, 56, 50, 56, 51, 56, 52, 56, 53, 56, 54, 56, 55, 56, 56, 56, 57, 57, 48, 57, 49, 57, 50, 57, 51, 57, 52, 57, 53, 57, 54, 57, 55, 57, 56, 57, 57]⟩)) (.tmp 62)⟩, [0, 1, 2, 3, 4, 5], none⟩,
            ⟨⟨(some 64), none, .mov (.tmp 8)⟩, [0, 1, 2, 3, 4, 5, 6, 7, 8], none⟩,
            ⟨⟨(some 65), none, .idxStr (.const (.string ⟨#[48, 48, 48, 49, 48, 50, 48, 51, 48, 52, 48, 53, 48, 54, 48, 55, 48, 56, 48, 57, 49, 48, 49, 49, 49, 50, 49, 51, 49, 52, 49, 53, 49, 54, 49, 55, 49, 56, 49, 57, 50, 48, 50, 49, 50, 50, 50, 51, 50, 52, 50, 53, 50, 54, 50, 55, 50, 56, 50, 57, 51, 48, 51, 49, 51, 50, 51, 51, 51, 52, 51, 53, 51, 54, 51, 55, 51, 56, 51, 57, 52, 48, 52, 49, 52, 50, 52, 51, 52, 52, 52, 53, 52, 54, 52, 55, 52, 56, 52, 57, 53, 48, 53, 49, 53, 50, 53, 51, 53, 52, 53, 53, 53, 54, 53, 55, 53, 56, 53, 57, 54, 48, 54, 49, 54, 50, 54, 51, 54, 52, 54, 53, 54, 54, 54, 55, 54, 56, 54, 57, 55, 48, 55, 49, 55, 50, 55, 51, 55, 52, 55, 53, 55, 54, 55, 55, 55, 56, 55, 57, 56, 48, 56, 49, 56, 50, 56, 51, 56, 52, 56, 53, 56, 54, 56, 55, 56, 56, 56, 57, 57, 48, 57, 49, 57, 50, 57, 51, 57, 52, 57, 53, 57, 54, 57, 55, 57, 56, 57, 57]⟩)) (.tmp 64)⟩, [0, 1, 2, 3, 4, 5, 6, 7, 8], none⟩,
            ⟨⟨(some 66), none, .idxS 1 (.tmp 55) (.tmp 57)⟩, [3, 4, 5, 9, 10], none⟩,
            ⟨⟨none, none, .store 1 (.tmp 66) (.tmp 63)⟩, [3, 4, 5, 9, 10], none⟩] [⟨(some 67), none, .idxS 1 (.tmp 58) (.tmp 60)⟩,
            ⟨none, none, .store 1 (.tmp 67) (.tmp 65)⟩] [0, 1, 4, 10, 11])
        (.seq (.drawW [⟨⟨(some 68), none, .mov (.tmp 0)⟩, [], none⟩,
            ⟨⟨(some 69), none, .mov (.tmp 4)⟩, [0], none⟩,
            ⟨⟨(some 70), none, .bin .sub (.tmp 69) (.const (.int .i64 5))⟩, [0], none⟩,
            ⟨⟨(some 71), none, .mov (.tmp 0)⟩, [0, 1, 2], none⟩,
            ⟨⟨(some 72), none, .mov (.tmp 4)⟩, [0, 1, 2, 3], none⟩,
            ⟨⟨(some 73), none, .bin .sub (.tmp 72) (.const (.int .i64 6))⟩, [0, 1, 2, 3], none⟩,
            ⟨⟨(some 74), none, .mov (.tmp 11)⟩, [0, 1, 2, 3, 4, 5], none⟩,
            ⟨⟨(some 75), none, .bin .add (.tmp 74) (.const (.int .u32 1))⟩, [0, 1, 2, 3, 4, 5], none⟩,
            ⟨⟨(some 76), none, .idxStr (.const (.string ⟨#[48, 48, 48, 49, 48, 50, 48, 51, 48, 52, 48, 53, 48, 54, 48, 55, 48, 56, 48, 57, 49, 48, 49, 49, 49, 50, 49, 51, 49, 52, 49, 53, 49, 54, 49, 55, 49, 56, 49, 57, 50, 48, 50, 49, 50, 50, 50, 51, 50, 52, 50, 53, 50, 54, 50, 55, 50, 56, 50, 57, 51, 48, 51, 49, 51, 50, 51, 51, 51, 52, 51, 53, 51, 54, 51, 55, 51, 56, 51, 57, 52, 48, 52, 49, 52, 50, 52, 51, 52, 52, 52, 53, 52, 54, 52, 55, 52, 56, 52, 57, 53, 48, 53, 49, 53, 50, 53, 51, 53, 52, 53, 53, 53, 54, 53, 55, 53, 56, 53, 57, 54, 48, 54, 49, 54, 50, 54, 51, 54, 52, 54, 53, 54, 54, 54, 55, 54, 56, 54, 57, 55, 48, 55, 49, 55, 50, 55, 51, 55, 52, 55, 53, 55, 54, 55, 55, 55, 56, 55, 57, 56, 48, 56, 49, 56, 50, 56, 51, 56, 52, 56, 53, 56, 54, 56, 55, 56, 56, 56, 57, 57, 48, 57, 49, 57, 50, 57, 51, 57, 52, 57, 53, 57, 54, 57, 55, 57, 56, 57, 57]⟩)) (.tmp 75)⟩, [0, 1, 2, 3, 4, 5], none⟩,
            ⟨⟨(some 77), none, .mov (.tmp 11)⟩, [0, 1, 2, 3, 4, 5, 6, 7, 8], none⟩,
            ⟨⟨(some 78), none, .idxStr (.const (.string ⟨#[48, 48, 48, 49, 48, 50, 48, 51, 48, 52, 48, 53, 48, 54, 48, 55, 48, 56, 48, 57, 49, 48, 49, 49, 49, 50, 49, 51, 49, 52, 49, 53, 49, 54, 49, 55, 49, 56, 49, 57, 50, 48, 50, 49, 50, 50, 50, 51, 50, 52, 50, 53, 50, 54, 50, 55, 50, 56, 50, 57, 51, 48, 51, 49, 51, 50, 51, 51, 51, 52, 51, 53, 51, 54, 51, 55, 51, 56, 51, 57, 52, 48, 52, 49, 52, 50, 52, 51, 52, 52, 52, 53, 52, 54, 52, 55, 52, 56, 52, 57, 53, 48, 53, 49, 53, 50, 53, 51, 53, 52, 53, 53, 53, 54, 53, 55, 53, 56, 53, 57, 54, 48, 54, 49, 54, 50, 54, 51, 54, 52, 54, 53, 54, 54, 54, 55, 54, 56, 54, 57, 55, 48, 55, 49, 55, 50, 55, 51, 55, 52, 55, 53, 55, 54, 55, 55, 55, 56, 55, 57, 56, 48, 56, 49, 56, 50, 56, 51, 56, 52, 56, 53, 56, 54, 56, 55, 56, 56, 56, 57, 57, 48, 57, 49, 57, 50, 57, 51, 57, 52, 57, 53, 57, 54, 57, 55, 57, 56, 57, 57]⟩)) (.tmp 77)⟩, [0, 1, 2, 3, 4, 5, 6, 7, 8], none⟩,
            ⟨⟨(some 79), none, .idxS 1 (.tmp 68) (.tmp 70)⟩, [3, 4, 5, 9, 10], none⟩,
            ⟨⟨none, none, .store 1 (.tmp 79) (.tmp 76)⟩, [3, 4, 5, 9, 10], none⟩] [⟨(some 80), none, .idxS 1 (.tmp 71) (.tmp 73)⟩,
            ⟨none, none, .store 1 (.tmp 80) (.tmp 78)⟩] [0, 1, 4, 10])
        (.seq (.drawW [⟨⟨(some 81), none, .mov (.tmp 0)⟩, [], none⟩,
            ⟨⟨(some 82), none, .mov (.tmp 4)⟩, [0], none⟩,
            ⟨⟨(some 83), none, .bin .sub (.tmp 82) (.const (.int .i64 7))⟩, [0], none⟩,
            ⟨⟨(some 84), none, .mov (.tmp 0)⟩, [0, 1, 2], none⟩,
            ⟨⟨(some 85), none, .mov (.tmp 4)⟩, [0, 1, 2, 3], none⟩,
            ⟨⟨(some 86), none, .bin .sub (.tmp 85) (.const (.int .i64 8))⟩, [0, 1, 2, 3], none⟩,
            ⟨⟨(some 87), none, .mov (.tmp 10)⟩, [0, 1, 2, 3, 4, 5], none⟩,
            ⟨⟨(some 88), none, .bin .add (.tmp 87) (.const (.int .u32 1))⟩, [0, 1, 2, 3, 4, 5], none⟩,
            ⟨⟨(some 89), none, .idxStr (.const (.string ⟨#[48, 48, 48, 49, 48, 50, 48, 51, 48, 52, 48, 53, 48, 54, 48, 55, 48, 56, 48, 57, 49, 48, 49, 49, 49, 50, 49, 51, 49, 52, 49, 53, 49, 54, 49, 55, 49, 56, 49, 57, 50, 48, 50, 49, 50, 50, 50, 51, 50, 52, 50, 53, 50, 54, 50, 55, 50, 56, 50, 57, 51, 48, 51, 49, 51, 50, 51, 51, 51, 52, 51, 53, 51, 54, 51, 55, 51, 56, 51, 57, 52, 48, 52, 49, 52, 50, 52, 51, 52, 52, 52, 53, 52, 54, 52, 55, 52, 56, 52, 57, 53, 48, 53, 49, 53, 50, 53, 51, 53, 52, 53, 53, 53, 54, 53, 55, 53, 56, 53, 57, 54, 48, 54, 49, 54, 50, 54, 51, 54, 52, 54, 53, 54, 54, 54, 55, 54, 56, 54, 57, 55, 48, 55, 49, 55, 50, 55, 51, 55, 52, 55, 53, 55, 54, 55, 55, 55, 56, 55, 57, 56, 48, 56, 49, 56, 50, 56, 51, 56, 52, 56, 53, 56, 54, 56, 55, 56, 56, 56, 57, 57, 48, 57, 49, 57, 50, 57, 51, 57, 52, 57, 53, 57, 54, 57, 55, 57, 56, 57, 57]⟩)) (.tmp 88)⟩, [0, 1, 2, 3, 4, 5], none⟩,
            ⟨⟨(some 90), none, .mov (.tmp 10)⟩, [0, 1, 2, 3, 4, 5, 6, 7, 8], none⟩,
            ⟨⟨(some 91), none, .idxStr (.const (.string ⟨#[48, 48, 48, 49, 48, 50, 48, 51, 48, 52, 48, 53, 48, 54, 48, 55, 48, 56, 48, 57, 49, 48, 49, 49, 49, 50, 49, 51, 49, 52, 49, 53, 49, 54, 49, 55, 49, 56, 49, 57, 50, 48, 50, 49, 50, 50, 50, 51, 50, 52, 50, 53, 50, 54, 50, 55, 50, 56, 50, 57, 51, 48, 51, 49, 51, 50, 51, 51, 51, 52, 51, 53, 51, 54, 51, 55, 51, 56, 51, 57, 52, 48, 52, 49, 52, 50, 52, 51, 52, 52, 52, 53, 52, 54, 52, 55, 52, 56, 52, 57, 53, 48, 53, 49, 53, 50, 53, 51, 53, 52, 53, 53, 53, 54, 53, 55, 53, 56, 53, 57, 54, 48, 54, 49, 54, 50, 54, 51, 54, 52, 54, 53, 54, 54, 54, 55, 54, 56, 54, 57, 55, 48, 55, 49, 55, 50, 55, 51, 55, 52, 55, 53, 55, 54, 55, 55, 55, 56, 55, 57, 56, 48, 56, 49, 56, 50, 56, 51, 56, 52, 56, 53, 56, 54, 56, 55, 56, 56, 56, 57, 57, 48, 57, 49, 57, 50, 57, 51, 57, 52, 57, 53, 57, 54, 57, 55, 57, 56, 57, 57]⟩)) (.tmp 90)⟩, [0, 1, 2, 3, 4, 5, 6, 7, 8], none⟩,
            ⟨⟨(some 92), none, .idxS 1 (.tmp 81) (.tmp 83)⟩, [3, 4, 5, 9, 10], none⟩,
            ⟨⟨none, none, .store 1 (.tmp 92) (.tmp 89)⟩, [3, 4, 5, 9, 10], none⟩] [⟨(some 93), none, .idxS 1 (.tmp 84) (.tmp 86)⟩,
            ⟨none, none, .store 1 (.tmp 93) (.tmp 91)⟩] [0, 1, 4])
        (.ops [⟨(some 94), none, .mov (.tmp 4)⟩,
            ⟨(some 95), none, .bin .sub (.tmp 94) (.const (.int .i64 8))⟩,
            ⟨(some 4), none, .mov (.tmp 95)⟩] [0, 1, 4])))))))))))
def c76 : AFun := ⟨
  .seq (.ops [⟨(some 17), none, .mov (.tmp 0)⟩,
      ⟨(some 18), none, .len false (.tmp 17)⟩,
      ⟨(some 4), none, .mov (.tmp 18)⟩] [0, 1, 4])
  (.seq (.block 0
    (.loop [0, 1, 4]
      c76l0))
  (.seq (.ops [⟨(some 96), none, .mov (.tmp 1)⟩,
      ⟨(some 97), none, .convI .u32 (.tmp 96)⟩,
      ⟨(some 12), none, .mov (.tmp 97)⟩] [0, 4, 12])
  (.seq (.seq (.ops [⟨(some 98), none, .mov (.tmp 4)⟩,
      ⟨(some 99), none, .bin .geq (.tmp 98) (.const (.int .i64 4))⟩] [0, 4, 12, 99])
  (.cond (.tmp 99)
    (.seq (.ops [⟨(some 100), none, .mov (.tmp 12)⟩,
        ⟨(some 101), none, .bin .rem (.tmp 100) (.const (.int .u32 10000))⟩,
        ⟨(some 13), none, .mov (.tmp 101)⟩] [0, 4, 12, 13])
    (.seq (.ops [⟨(some 102), none, .mov (.tmp 12)⟩,
        ⟨(some 103), none, .bin .quo (.tmp 102) (.const (.int .u32 10000))⟩,
        ⟨(some 12), none, .mov (.tmp 103)⟩] [0, 4, 12, 13])
    (.seq (.ops [⟨(some 104), none, .mov (.tmp 13)⟩,
        ⟨(some 105), none, .bin .quo (.tmp 104) (.const (.int .u32 100))⟩,
        ⟨(some 106), none, .bin .mul (.tmp 105) (.const (.int .u32 2))⟩,
        ⟨(some 107), none, .mov (.tmp 13)⟩,
        ⟨(some 108), none, .bin .rem (.tmp 107) (.const (.int .u32 100))⟩,
        ⟨(some 109), none, .bin .mul (.tmp 108) (.const (.int .u32 2))⟩,
        ⟨(some 14), none, .mov (.tmp 106)⟩,
        ⟨(some 15), none, .mov (.tmp 109)⟩] [0, 4, 12, 14, 15])
    (.seq (.drawW [⟨⟨(some 110), none, .mov (.tmp 0)⟩, [], none⟩,
        ⟨⟨(some 111), none, .mov (.tmp 4)⟩, [0], none⟩,
        ⟨⟨(some 112), none, .bin .sub (.tmp 111) (.const (.int .i64 1))⟩, [0], none⟩,
        ⟨⟨(some 113), none, .mov (.tmp 0)⟩, [0, 1, 2], none⟩,
        ⟨⟨(some 114), none, .mov (.tmp 4)⟩, [0, 1, 2, 3], none⟩,
        ⟨⟨(some 115), none, .bin .sub (.tmp 114) (.const (.int .i64 2))⟩, [0, 1, 2, 3], none⟩,
        ⟨⟨(some 116), none, .mov (.tmp 15)⟩, [0, 1, 2, 3, 4, 5], none⟩,
        ⟨⟨(some 117), none, .bin .add (.tmp 116) (.const (.int .u32 1))⟩, [0, 1, 2, 3, 4, 5], none⟩,
        ⟨⟨(some 118), none, .idxStr (.const (.string ⟨#[48, 48, 48, 49, 48, 50, 48, 51, 48, 52, 48, 53, 48, 54, 48, 55, 48, 56, 48, 57, 49, 48, 49, 49, 49, 50, 49, 51, 49, 52, 49, 53, 49, 54, 49, 55, 49, 56, 49, 57, 50, 48, 50, 49, 50, 50, 50, 51, 50, 52, 50, 53, 50, 54, 50, 55, 50, 56, 50, 57, 51, 48, 51, 49, 51, 50, 51, 51, 51, 52, 51, 53, 51, 54, 51, 55, 51, 56, 51, 57, 52, 48, 52, 49, 52, 50, 52, 51, 52, 52, 52, 53, 52, 54, 52, 55, 52, 56, 52, 57, 53, 48, 53, 49, 53, 50, 53, 51, 53, 52, 53, 53, 53, 54, 53, 55, 53, 56, 53, 57, 54, 48, 54, 49, 54, 50, 54, 51, 54, 52, 54, 53, 54, 54, 54, 55, 54, 56, 54, 57, 55, 48, 55, 49, 55, 50, 55, 51, 55, 52, 55, 53, 55, 54, 55, 55, 55, 56, 55, 57, 56, 48, 56, 49, 56, 50, 56, 51, 56, 52, 56, 53, 56, 54, 56, 55, 56, 56, 56, 57, 57, 48, 57, 49, 57, 50, 57, 51, 57, 52, 57, 53, 57, 54, 57, 55, 57, 56, 57, 57]⟩)) (.tmp 117)⟩, [0, 1, 2, 3, 4, 5], none⟩,
        ⟨⟨(some 119), none, .mov (.tmp 15)⟩, [0, 1, 2, 3, 4, 5, 6, 7, 8], none⟩,
        ⟨⟨(some 120), none, .idxStr (.const (.string ⟨#[48, 48, 48, 49, 48, 50, 48, 51, 48, 52, 48, 53, 48, 54, 48, 55, 48, 56, 48, 57, 49, 48, 49, 49, 49, 50, 49, 51, 49, 52, 49, 53, 49, 54, 49, 55, 49, 56, 49, 57, 50, 48, 50, 49, 50, 50, 50, 51, 50, 52, 50, 53, 50, 54, 50, 55, 50, 56, 50, 57, 51, 48, 51, 49, 51, 50, 51, 51, 51, 52, 51, 53, 51, 54, 51, 55, 51, 56, 51, 57, 52, 48, 52, 49, 52, 50, 52, 51, 52, 52, 52, 53, 52, 54, 52, 55, 52, 56, 52, 57, 53, 48, 53, 49, 53, 50, 53, 51, 53, 52, 53, 53, 53, 54, 53, 55, 53, 56, 53, 57, 54, 48, 54, 49, 54, 50, 54, 51, 54, 52, 54, 53, 54, 54, 54, 55, 54, 56, 54, 57, 55, 48, 55, 49, 55, 50, 55, 51, 55, 52, 55, 53, 55, 54, 55, 55, 55, 56, 55, 57, 56, 48, 56, 49, 56, 50, 56, 51, 56, 52, 56, 53, 56, 54, 56, 55, 56, 56, 56, 57, 57, 48, 57, 49, 57, 50, 57, 51, 57, 52, 57, 53, 57, 54, 57, 55, 57, 56, 57, 57]⟩)) (.tmp 119)⟩, [0, 1, 2, 3, 4, 5, 6, 7, 8], none⟩,
        ⟨⟨(some 121), none, .idxS 1 (.tmp 110) (.tmp 112)⟩, [3, 4, 5, 9, 10], none⟩,
        ⟨⟨none, none, .store 1 (.tmp 121) (.tmp 118)⟩, [3, 4, 5, 9, 10], none⟩] [⟨(some 122), none, .idxS 1 (.tmp 113) (.tmp 115)⟩,
        ⟨none, none, .store 1 (.tmp 122) (.tmp 120)⟩] [0, 4, 12, 14])
    (.seq (.drawW [⟨⟨(some 123), none, .mov (.tmp 0)⟩, [], none⟩,
        ⟨⟨(some 124), none, .mov (.tmp 4)⟩, [0], none⟩,
        ⟨⟨(some 125), none, .bin .sub (.tmp 124) (.const (.int .i64 3))⟩, [0], none⟩,
        ⟨⟨(some 126), none, .mov (.tmp 0)⟩, [0, 1, 2], none⟩,
        ⟨⟨(some 127), none, .mov (.tmp 4)⟩, [0, 1, 2, 3], none⟩,
        ⟨⟨(some 128), none, .bin .sub (.tmp 127) (.const (.int .i64 4))⟩, [0, 1, 2, 3], none⟩,
        ⟨⟨(some 129), none, .mov (.tmp 14)⟩, [0, 1, 2, 3, 4, 5], none⟩,
        ⟨⟨(some 130), none, .bin .add (.tmp 129) (.const (.int .u32 1))⟩, [0, 1, 2, 3, 4, 5], none⟩,
        ⟨⟨(some 131), none, .idxStr (.const (.string ⟨#[48, 48, 48, 49, 48, 50, 48, 51, 48, 52, 48, 53, 48, 54, 48, 55, 48, 56, 48, 57, 49, 48, 49, 49, 49, 50, 49, 51, 49, 52, 49, 53, 49, 54, 49, 55, 49, 56, 49, 57, 50, 48, 50, 49, 50, 50, 50, 51, 50, 52, 50, 53, 50, 54, 50, 55, 50, 56, 50, 57, 51, 48, 51, 49, 51, 50, 51, 51, 51, 52, 51, 53, 51, 54, 51, 55, 51, 56, 51, 57, 52, 48, 52, 49, 52, 50, 52, 51, 52, 52, 52, 53, 52, 54, 52, 55, 52, 56, 52, 57, 53, 48, 53, 49, 53, 50, 53, 51, 53, 52, 53, 53, 53, 54, 53, 55, 53, 56, 53, 57, 54, 48, 54, 49, 54, 50, 54, 51, 54, 52, 54, 53, 54, 54, 54, 55, 54, 56, 54, 57, 55, 48, 55, 49, 55, 50, 55, 51, 55, 52, 55, 53, 55, 54, 55, 55, 55, 56, 55, 57, 56, 48, 56, 49, 56, 50, 56, 51, 56, 52, 56, 53, 56, 54, 56, 55, 56, 56, 56, 57, 57, 48, 57, 49, 57, 50, 57, 51, 57, 52, 57, 53, 57, 54, 57, 55, 57, 56, 57, 57]⟩)) (.tmp 130)⟩, [0, 1, 2, 3, 4, 5], none⟩,
        ⟨⟨(some 132), none, .mov (.tmp 14)⟩, [0, 1, 2, 3, 4, 5, 6, 7, 8], none⟩,
        ⟨⟨(some 133), none, .idxStr (.const (.string ⟨#[48, 48, 48, 49, 48, 50, 48, 51, 48, 52, 48, 53, 48, 54, 48, 55, 48, 56, 48, 57, 49, 48, 49, 49, 49, 50, 49, 51, 49, 52, 49, 53, 49, 54, 49, 55, 49, 56, 49, 57, 50, 48, 50, 49, 50, 50, 50, 51, 50, 52, 50, 53, 50, 54, 50, 55, 50, 56, 50, 57, 51, 48, 51, 49, 51, 50, 51, 51, 51, 52, 51, 53, 51, 54, 51, 55, 51, 56, 51, 57, 52, 48, 52, 49, 52, 50, 52, 51, 52, 52, 52, 53, 52, 54, 52, 55, 52, 56, 52, 57, 53, 48, 53, 49, 53, 50, 53, 51, 53, 52, 53, 53, 53, 54, 53, 55, 53, 56, 53, 57, 54, 48, 54, 49, 54, 50, 54, 51, 54, 52, 54, 53, 54, 54, 54, 55, 54, 56, 54, 57, 55, 48, 55, 49, 55, 50, 55, 51, 55, 52, 55, 53, 55, 54, 55, 55, 55, 56, 55, 57, 56, 48, 56, 49, 56, 50, 56, 51, 56, 52, 56, 53, 56, 54, 56, 55, 56, 56, 56, 57, 57, 48, 57, 49, 57, 50, 57, 51, 57, 52, 57, 53, 57, 54, 57, 55, 57, 56, 57, 57]⟩)) (.tmp 132)⟩, [0, 1, 2, 3, 4, 5, 6, 7, 8], none⟩,
        ⟨⟨(some 134), none, .idxS 1 (.tmp 123) (.tmp 125)⟩, [3, 4, 5, 9, 10], none⟩,
        ⟨⟨none, none, .store 1 (.tmp 134) (.tmp 131)⟩, [3, 4, 5, 9, 10], none⟩] [⟨(some 135), none, .idxS 1 (.tmp 126) (.tmp 128)⟩,
        ⟨none, none, .store 1 (.tmp 135) (.tmp 133)⟩] [0, 4, 12])
    (.ops [⟨(some 136), none, .mov (.tmp 4)⟩,
        ⟨(some 137), none, .bin .sub (.tmp 136) (.const (.int .i64 4))⟩,
        ⟨(some 4), none, .mov (.tmp 137)⟩] [0, 4, 12]))))))
    (.skip)))
  (.seq (.seq (.ops [⟨(some 138), none, .mov (.tmp 4)⟩,
      ⟨(some 139), none, .bin .geq (.tmp 138) (.const (.int .i64 2))⟩] [0, 4, 12, 139])
  (.cond (.tmp 139)
    (.seq (.ops [⟨(some 140), none, .mov (.tmp 12)⟩,
        ⟨(some 141), none, .bin .rem (.tmp 140) (.const (.int .u32 100))⟩,
        ⟨(some 142), none, .bin .mul (.tmp 141) (.const (.int .u32 2))⟩,
        ⟨(some 16), none, .mov (.tmp 142)⟩] [0, 4, 12, 16])
    (.seq (.ops [⟨(some 143), none, .mov (.tmp 12)⟩,
        ⟨(some 144), none, .bin .quo (.tmp 143) (.const (.int .u32 100))⟩,
        ⟨(some 12), none, .mov (.tmp 144)⟩] [0, 4, 12, 16])
    (.seq (.drawW [⟨⟨(some 145), none, .mov (.tmp 0)⟩, [], none⟩,
        ⟨⟨(some 146), none, .mov (.tmp 4)⟩, [0], none⟩,
        ⟨⟨(some 147), none, .bin .sub (.tmp 146) (.const (.int .i64 1))⟩, [0], none⟩,
        ⟨⟨(some 148), none, .mov (.tmp 0)⟩, [0, 1, 2], none⟩,
        ⟨⟨(some 149), none, .mov (.tmp 4)⟩, [0, 1, 2, 3], none⟩,
        ⟨⟨(some 150), none, .bin .sub (.tmp 149) (.const (.int .i64 2))⟩, [0, 1, 2, 3], none⟩,
        ⟨⟨(some 151), none, .mov (.tmp 16)⟩, [0, 1, 2, 3, 4, 5], none⟩,
        ⟨⟨(some 152), none, .bin .add (.tmp 151) (.const (.int .u32 1))⟩, [0, 1, 2, 3, 4, 5], none⟩,
        ⟨⟨(some 153), none, .idxStr (.const (.string ⟨#[48, 48, 48, 49, 48, 50, 48, 51, 48, 52, 48, 53, 48, 54, 48, 55, 48, 56, 48, 57, 49, 48, 49, 49, 49, 50, 49, 51, 49, 52, 49, 53, 49, 54, 49, 55, 49, 56, 49, 57, 50, 48, 50, 49, 50, 50, 50, 51, 50, 52, 50, 53, 50, 54, 50, 55, 50, 56, 50, 57, 51, 48, 51, 49, 51, 50, 51, 51, 51, 52, 51, 53, 51, 54, 51, 55, 51, 56, 51, 57, 52, 48, 52, 49, 52, 50, 52, 51, 52, 52, 52, 53, 52, 54, 52, 55, 52, 56, 52, 57, 53, 48, 53, 49, 53, 50, 53, 51, 53, 52, 53, 53, 53, 54, 53, 55, 53, 56, 53, 57, 54, 48, 54, 49, 54, 50, 54, 51, 54, 52, 54, 53, 54, 54, 54, 55, 54, 56, 54, 57, 55, 48, 55, 49, 55, 50, 55, 51, 55, 52, 55, 53, 55, 54, 55, 55, 55, 56, 55, 57, 56, 48, 56, 49, 56, 50, 56, 51, 56, 52, 56, 53, 56, 54, 56, 55, 56, 56, 56, 57, 57, 48, 57, 49, 57, 50, 57, 51, 57, 52, 57, 53, 57, 54, 57, 55, 57, 56, 57, 57]⟩)) (.tmp 152)⟩, [0, 1, 2, 3, 4, 5], none⟩,
        ⟨⟨(some 154), none, .mov (.tmp 16)⟩, [0, 1, 2, 3, 4, 5, 6, 7, 8], none⟩,
        ⟨⟨(some 155), none, .idxStr (.const (.string ⟨#[48, 48, 48, 49, 48, 50, 48, 51, 48, 52, 48, 53, 48, 54, 48, 55, 48, 56, 48, 57, 49, 48, 49, 49, 49, 50, 49, 51, 49, 52, 49, 53, 49, 54, 49, 55, 49, 56, 49, 57, 50, 48, 50, 49, 50, 50, 50, 51, 50, 52, 50, 53, 50, 54, 50, 55, 50, 56, 50, 57, 51, 48, 51, 49, 51, 50, 51, 51, 51, 52, 51, 53, 51, 54, 51, 55, 51, 56, 51, 57, 52, 48, 52, 49, 52, 50, 52, 51, 52, 52, 52, 53, 52, 54, 52, 55, 52, 56, 52, 57, 53, 48, 53, 49, 53, 50, 53, 51, 53, 52, 53, 53, 53, 54, 53, 55, 53, 56, 53, 57, 54, 48, 54, 49, 54, 50, 54, 51, 54, 52, 54, 53, 54, 54, 54, 55, 54, 56, 54, 57, 55, 48, 55, 49, 55, 50, 55, 51, 55, 52, 55, 53, 55, 54, 55, 55, 55, 56, 55, 57, 56, 48, 56, 49, 56, 50, 56, 51, 56, 52, 56, 53, 56, 54, 56, 55, 56, 56, 56, 57, 57, 48, 57, 49, 57, 50, 57, 51, 57, 52, 57, 53, 57, 54, 57, 55, 57, 56, 57, 57]⟩)) (.tmp 154)⟩, [0, 1, 2, 3, 4, 5, 6, 7, 8], none⟩,
        ⟨⟨(some 156), none, .idxS 1 (.tmp 145) (.tmp 147)⟩, [3, 4, 5, 9, 10], none⟩,
        ⟨⟨none, none, .store 1 (.tmp 156) (.tmp 153)⟩, [3, 4, 5, 9, 10], none⟩] [⟨(some 157), none, .idxS 1 (.tmp 148) (.tmp 150)⟩,
        ⟨none, none, .store 1 (.tmp 157) (.tmp 155)⟩] [0, 4, 12])
    (.ops [⟨(some 158), none, .mov (.tmp 4)⟩,
        ⟨(some 159), none, .bin .sub (.tmp 158) (.const (.int .i64 2))⟩,
        ⟨(some 4), none, .mov (.tmp 159)⟩] [0, 4, 12]))))
    (.skip)))
  (.seq (.ops [⟨(some 160), none, .mov (.tmp 4)⟩,
      ⟨(some 161), none, .bin .gtr (.tmp 160) (.const (.int .i64 0))⟩] [0, 12, 161])
  (.cond (.tmp 161)
    (.ops [⟨(some 162), none, .mov (.tmp 0)⟩,
        ⟨(some 163), none, .mov (.tmp 12)⟩,
        ⟨(some 164), none, .bin .add (.const (.int .u32 48)) (.tmp 163)⟩,
        ⟨(some 165), none, .convI .u8 (.tmp 164)⟩,
        ⟨(some 166), none, .idxS 1 (.tmp 162) (.const (.int .i64 0))⟩,
        ⟨none, none, .store 1 (.tmp 166) (.tmp 165)⟩] [])
    (.skip))))))),
  167, [], false⟩
theorem ok76 : FunOK Tryd.prog 76 c76 := ⟨⟨Tryd.f76, _, c76.code, Tryd.func76, rfl, by kernel_rfl, rfl, by kernel_rfl, by kernel_rfl⟩⟩
/- internal/strconv.formatBits (1 operations that the interpreter lacks) -/
def c77l0 : AC :=
  .seq (.seq (.ops [⟨(some 66), none, .mov (.tmp 1)⟩,
            ⟨(some 67), none, .mov (.tmp 17)⟩,
            ⟨(some 68), none, .bin .geq (.tmp 66) (.tmp 67)⟩] [0, 1, 3, 4, 10, 11, 12, 13, 17, 68])
        (.cond (.tmp 68)
          (.skip)
          (.exit 2)))
        (.block 3
          (.seq (.ops [⟨(some 69), none, .mov (.tmp 13)⟩,
              ⟨(some 70), none, .bin .sub (.tmp 69) (.const (.int .i64 1))⟩,
              ⟨(some 13), none, .mov (.tmp 70)⟩] [0, 1, 3, 4, 10, 11, 12, 13, 17])
          (.seq (.ops [⟨(some 71), none, .mov (.tmp 1)⟩,
              ⟨(some 72), none, .mov (.tmp 17)⟩,
              ⟨(some 73), none, .bin .quo (.tmp 71) (.tmp 72)⟩,
              ⟨(some 18), none, .mov (.tmp 73)⟩] [0, 1, 3, 4, 10, 11, 12, 13, 17, 18])
          (.seq (.ops [⟨(some 74), none, .mov (.tmp 13)⟩,
              ⟨(some 75), none, .mov (.tmp 1)⟩,
              ⟨(some 76), none, .mov (.tmp 18)⟩,
              ⟨(some 77), none, .mov (.tmp 17)⟩,
              ⟨(some 78), none, .bin .mul (.tmp 76) (.tmp 77)⟩,
              ⟨(some 79), none, .bin .sub (.tmp 75) (.tmp 78)⟩,
              ⟨(some 80), none, .idxStr (.const (.string ⟨#[48, 49, 50, 51, 52, 53, 54, 55, 56, 57, 97, 98, 99, 100, 101, 102, 103, 104, 105, 106, 107, 108, 109, 110, 111, 112, 113, 114, 115, 116, 117, 118, 119, 120, 121, 122]⟩)) (.tmp 79)⟩,
              ⟨(some 81), none, .idxA 65 1 (.tmp 12) (.tmp 74)⟩,
              ⟨none, none, .store 1 (.tmp 81) (.tmp 80)⟩] [0, 3, 4, 10, 11, 12, 13, 17, 18])
          (.ops [⟨(some 82), none, .mov (.tmp 18)⟩,
              ⟨(some 1), none, .mov (.tmp 82)⟩] [0, 1, 3, 4, 10, 11, 12, 13, 17])))))
def c77l1 : AC :=
  .seq (.seq (.ops [⟨(some 44), none, .mov (.tmp 1)⟩,
            ⟨(some 45), none, .mov (.tmp 15)⟩,
            ⟨(some 46), none, .bin .geq (.tmp 44) (.tmp 45)⟩] [0, 1, 3, 4, 10, 11, 12, 13, 14, 15, 16, 46])
        (.cond (.tmp 46)
          (.skip)
          (.exit 0)))
        (.block 1
          (.seq (.ops [⟨(some 47), none, .mov (.tmp 13)⟩,
              ⟨(some 48), none, .bin .sub (.tmp 47) (.const (.int .i64 1))⟩,
              ⟨(some 13), none, .mov (.tmp 48)⟩] [0, 1, 3, 4, 10, 11, 12, 13, 14, 15, 16])
          (.seq (.ops [⟨(some 49), none, .mov (.tmp 13)⟩,
              ⟨(some 50), none, .mov (.tmp 1)⟩,
              ⟨(some 51), none, .mov (.tmp 16)⟩,
              ⟨(some 52), none, .bin .and (.tmp 50) (.tmp 51)⟩,
              ⟨(some 53), none, .idxStr (.const (.string ⟨#[48, 49, 50, 51, 52, 53, 54, 55, 56, 57, 97, 98, 99, 100, 101, 102, 103, 104, 105, 106, 107, 108, 109, 110, 111, 112, 113, 114, 115, 116, 117, 118, 119, 120, 121, 122]⟩)) (.tmp 52)⟩,
              ⟨(some 54), none, .idxA 65 1 (.tmp 12) (.tmp 49)⟩,
              ⟨none, none, .store 1 (.tmp 54) (.tmp 53)⟩] [0, 1, 3, 4, 10, 11, 12, 13, 14, 15, 16])
          (.ops [⟨(some 55), none, .mov (.tmp 1)⟩,
              ⟨(some 56), none, .mov (.tmp 14)⟩,
              ⟨(some 57), none, .bin .shr (.tmp 55) (.tmp 56)⟩,
              ⟨(some 1), none, .mov (.tmp 57)⟩] [0, 1, 3, 4, 10, 11, 12, 13, 14, 15, 16]))))
def c77 : AFun := ⟨
  .seq (.ops [⟨(some 10), none, .mov (.const (.slice none 0 0))⟩,
      ⟨(some 11), none, .mov (.const (.string ⟨#[]⟩))⟩] [0, 1, 2, 3, 4, 10, 11])
  (.seq (.seq (.ops [⟨(some 19), none, .mov (.tmp 2)⟩,
      ⟨(some 20), none, .bin .lss (.tmp 19) (.const (.int .i64 2))⟩,
      ⟨(some 21), none, .mov (.tmp 20)⟩,
      ⟨(some 22), (some (21, false)), .mov (.tmp 2)⟩,
      ⟨(some 23), (some (21, false)), .bin .eql (.tmp 22) (.const (.int .i64 10))⟩,
      ⟨(some 24), none, .pick (.tmp 21) (.const (.bool true)) (.tmp 23)⟩,
      ⟨(some 25), none, .mov (.tmp 24)⟩,
      ⟨(some 26), (some (25, false)), .mov (.tmp 2)⟩,
      ⟨(some 27), (some (25, false)), .bin .gtr (.tmp 26) (.const (.int .i64 36))⟩,
      ⟨(some 28), none, .pick (.tmp 25) (.const (.bool true)) (.tmp 27)⟩] [0, 1, 2, 3, 4, 10, 11, 28])
  (.cond (.tmp 28)
    (.ops [⟨(some 29), none, .mkIf 9 (.const (.string ⟨#[115, 116, 114, 99, 111, 110, 118, 58, 32, 105, 108, 108, 101, 103, 97, 108, 32, 65, 112, 112, 101, 110, 100, 73, 110, 116, 47, 70, 111, 114, 109, 97, 116, 73, 110, 116, 32, 98, 97, 115, 101]⟩))⟩,
        ⟨none, none, .bad⟩] [0, 1, 2, 3, 4, 10, 11])
    (.skip)))
  (.seq (.ops [⟨(some 12), none, .alloc 136 [(65, (.int .u8 0))]⟩] [0, 1, 2, 3, 4, 10, 11, 12])
  (.seq (.ops [⟨(some 13), none, .mov (.const (.int .i64 65))⟩] [0, 1, 2, 3, 4, 10, 11, 12, 13])
  (.seq (.seq (.ops [⟨(some 30), none, .mov (.tmp 3)⟩] [0, 1, 2, 3, 4, 10, 11, 12, 13, 30])
  (.cond (.tmp 30)
    (.ops [⟨(some 31), none, .mov (.tmp 1)⟩,
        ⟨(some 32), none, .un .neg (.tmp 31)⟩,
        ⟨(some 1), none, .mov (.tmp 32)⟩] [0, 1, 2, 3, 4, 10, 11, 12, 13])
    (.skip)))
  (.seq (.seq (.ops [⟨(some 33), none, .mov (.tmp 2)⟩,
      ⟨(some 34), none, .callF 89 [(.tmp 33)]⟩] [0, 1, 2, 3, 4, 10, 11, 12, 13, 34])
  (.cond (.tmp 34)
    (.seq (.ops [⟨(some 35), none, .mov (.tmp 2)⟩,
        ⟨(some 36), none, .convI .u64 (.tmp 35)⟩,
        ⟨(some 37), none, .callF 90 [(.tmp 36)]⟩,
        ⟨(some 38), none, .convI .u64 (.tmp 37)⟩,
        ⟨(some 14), none, .mov (.tmp 38)⟩] [0, 1, 2, 3, 4, 10, 11, 12, 13, 14])
    (.seq (.ops [⟨(some 39), none, .mov (.tmp 2)⟩,
        ⟨(some 40), none, .convI .u64 (.tmp 39)⟩,
        ⟨(some 15), none, .mov (.tmp 40)⟩] [0, 1, 2, 3, 4, 10, 11, 12, 13, 14, 15])
    (.seq (.ops [⟨(some 41), none, .mov (.tmp 2)⟩,
        ⟨(some 42), none, .convI .u64 (.tmp 41)⟩,
        ⟨(some 43), none, .bin .sub (.tmp 42) (.const (.int .u64 1))⟩,
        ⟨(some 16), none, .mov (.tmp 43)⟩] [0, 1, 3, 4, 10, 11, 12, 13, 14, 15, 16])
    (.seq (.block 0
      (.loop [0, 1, 3, 4, 10, 11, 12, 13, 14, 15, 16]
        c77l1))
    (.seq (.ops [⟨(some 58), none, .mov (.tmp 13)⟩,
        ⟨(some 59), none, .bin .sub (.tmp 58) (.const (.int .i64 1))⟩,
        ⟨(some 13), none, .mov (.tmp 59)⟩] [0, 1, 3, 4, 10, 11, 12, 13])
    (.ops [⟨(some 60), none, .mov (.tmp 13)⟩,
        ⟨(some 61), none, .mov (.tmp 1)⟩,
        ⟨(some 62), none, .idxStr (.const (.string ⟨#[48, 49, 50, 51, 52, 53, 54, 55, 56, 57, 97, 98, 99, 100, 101, 102, 103, 104, 105, 106, 107, 108, 109, 110, 111, 112, 113, 114, 115, 116, 117, 118, 119, 120, 121, 122]⟩)) (.tmp 61)⟩,
        ⟨(some 63), none, .idxA 65 1 (.tmp 12) (.tmp 60)⟩,
        ⟨none, none, .store 1 (.tmp 63) (.tmp 62)⟩] [0, 3, 4, 10, 11, 12, 13]))))))
    (.seq (.ops [⟨(some 64), none, .mov (.tmp 2)⟩,
        ⟨(some 65), none, .convI .u64 (.tmp 64)⟩,
        ⟨(some 17), none, .mov (.tmp 65)⟩] [0, 1, 3, 4, 10, 11, 12, 13, 17])
    (.seq (.block 2
      (.loop [0, 1, 3, 4, 10, 11, 12, 13, 17]
        c77l0))
    (.seq (.ops [⟨(some 83), none, .mov (.tmp 13)⟩,
        ⟨(some 84), none, .bin .sub (.tmp 83) (.const (.int .i64 1))⟩,
        ⟨(some 13), none, .mov (.tmp 84)⟩] [0, 1, 3, 4, 10, 11, 12, 13])
    (.ops [⟨(some 85), none, .mov (.tmp 13)⟩,
        ⟨(some 86), none, .mov (.tmp 1)⟩,
        ⟨(some 87), none, .idxStr (.const (.string ⟨#[48, 49, 50, 51, 52, 53, 54, 55, 56, 57, 97, 98, 99, 100, 101, 102, 103, 104, 105, 106, 107, 108, 109, 110, 111, 112, 113, 114, 115, 116, 117, 118, 119, 120, 121, 122]⟩)) (.tmp 86)⟩,
        ⟨(some 88), none, .idxA 65 1 (.tmp 12) (.tmp 85)⟩,
        ⟨none, none, .store 1 (.tmp 88) (.tmp 87)⟩] [0, 3, 4, 10, 11, 12, 13]))))))
  (.seq (.seq (.ops [⟨(some 89), none, .mov (.tmp 3)⟩] [0, 4, 10, 11, 12, 13, 89])
  (.cond (.tmp 89)
    (.seq (.ops [⟨(some 90), none, .mov (.tmp 13)⟩,
        ⟨(some 91), none, .bin .sub (.tmp 90) (.const (.int .i64 1))⟩,
        ⟨(some 13), none, .mov (.tmp 91)⟩] [0, 4, 10, 11, 12, 13])
    (.ops [⟨(some 92), none, .mov (.tmp 13)⟩,
        ⟨(some 93), none, .idxA 65 1 (.tmp 12) (.tmp 92)⟩,
        ⟨none, none, .store 1 (.tmp 93) (.const (.int .u8 45))⟩] [0, 4, 10, 11, 12, 13]))
    (.skip)))
  (.seq (.seq (.ops [⟨(some 94), none, .mov (.tmp 4)⟩] [0, 10, 11, 12, 13, 94])
  (.cond (.tmp 94)
    (.seq (.ops [⟨(some 95), none, .mov (.tmp 0)⟩,
        ⟨(some 96), none, .mov (.tmp 13)⟩,
        ⟨(some 97), none, .slcA 65 1 (.tmp 12) (some (.tmp 96)) none⟩,
        ⟨(some 98), none, .app 5 1 1 (.tmp 95) (.tmp 97)⟩,
        ⟨(some 10), none, .mov (.tmp 98)⟩] [10, 11])
    (.ret))
    (.skip)))
  (.seq (.ops [⟨(some 99), none, .mov (.tmp 13)⟩,
      ⟨(some 100), none, .slcA 65 1 (.tmp 12) (some (.tmp 99)) none⟩,
      ⟨(some 101), none, .b2s (.tmp 100)⟩,
      ⟨(some 11), none, .mov (.tmp 101)⟩] [10, 11])
  (.ret))))))))),
  102, [(10, none), (11, none)], true⟩
theorem ok77 : FunOK Tryd.prog 77 c77 := ⟨⟨Tryd.f77, _, c77.code, Tryd.func77, rfl, by kernel_rfl, rfl, by kernel_rfl, by kernel_rfl⟩⟩
/- internal/strconv.log10Pow2 -/
def c86 : AFun := ⟨
  .seq (.ops [⟨(some 2), none, .mov (.const (.int .i64 0))⟩] [0])
  (.seq (.ops [⟨(some 3), none, .mov (.tmp 0)⟩,
      ⟨(some 4), none, .bin .mul (.tmp 3) (.const (.int .i64 78913))⟩,
      ⟨(some 5), none, .bin .shr (.tmp 4) (.const (.int .u64 18))⟩,
      ⟨(some 2), none, .mov (.tmp 5)⟩] [2])
  (.ret)),
  6, [(2, none)], true⟩
theorem ok86 : FunOK Tryd.prog 86 c86 := ⟨⟨Tryd.f86, _, c86.code, Tryd.func86, rfl, by kernel_rfl, rfl, by kernel_rfl, by kernel_rfl⟩⟩
/- math/bits.Len64 -/
def c87 : AFun := ⟨
  .seq (.ops [⟨(some 2), none, .mov (.const (.int .i64 0))⟩] [0, 2])
  (.seq (.seq (.ops [⟨(some 3), none, .mov (.tmp 0)⟩,
      ⟨(some 4), none, .bin .geq (.tmp 3) (.const (.int .u64 4294967296))⟩] [0, 2, 4])
  (.cond (.tmp 4)
    (.seq (.ops [⟨(some 5), none, .mov (.tmp 0)⟩,
        ⟨(some 6), none, .bin .shr (.tmp 5) (.const (.int .u64 32))⟩,
        ⟨(some 0), none, .mov (.tmp 6)⟩] [0])
    (.ops [⟨(some 2), none, .mov (.const (.int .i64 32))⟩] [0, 2]))
    (.skip)))
  (.seq (.seq (.ops [⟨(some 7), none, .mov (.tmp 0)⟩,
      ⟨(some 8), none, .bin .geq (.tmp 7) (.const (.int .u64 65536))⟩] [0, 2, 8])
  (.cond (.tmp 8)
    (.seq (.ops [⟨(some 9), none, .mov (.tmp 0)⟩,
        ⟨(some 10), none, .bin .shr (.tmp 9) (.const (.int .u64 16))⟩,
        ⟨(some 0), none, .mov (.tmp 10)⟩] [0, 2])
    (.ops [⟨(some 11), none, .mov (.tmp 2)⟩,
        ⟨(some 12), none, .bin .add (.tmp 11) (.const (.int .i64 16))⟩,
        ⟨(some 2), none, .mov (.tmp 12)⟩] [0, 2]))
    (.skip)))
  (.seq (.seq (.ops [⟨(some 13), none, .mov (.tmp 0)⟩,
      ⟨(some 14), none, .bin .geq (.tmp 13) (.const (.int .u64 256))⟩] [0, 2, 14])
  (.cond (.tmp 14)
    (.seq (.ops [⟨(some 15), none, .mov (.tmp 0)⟩,
        ⟨(some 16), none, .bin .shr (.tmp 15) (.const (.int .u64 8))⟩,
        ⟨(some 0), none, .mov (.tmp 16)⟩] [0, 2])
    (.ops [⟨(some 17), none, .mov (.tmp 2)⟩,
        ⟨(some 18), none, .bin .add (.tmp 17) (.const (.int .i64 8))⟩,
        ⟨(some 2), none, .mov (.tmp 18)⟩] [0, 2]))
    (.skip)))
  (.seq (.ops [⟨(some 19), none, .mov (.tmp 2)⟩,
      ⟨(some 20), none, .mov (.tmp 0)⟩,
      ⟨(some 21), none, .convI .u8 (.tmp 20)⟩,
      ⟨(some 22), none, .idxStr (.const (.string ⟨#[0, 1, 2, 2, 3, 3, 3, 3, 4, 4, 4, 4, 4, 4, 4, 4, 5, 5, 5, 5, 5, 5, 5, 5, 5, 5, 5, 5, 5, 5, 5, 5, 6, 6, 6, 6, 6, 6, 6, 6, 6, 6, 6, 6, 6, 6, 6, 6, 6, 6, 6, 6, 6, 6, 6, 6, 6, 6, 6, 6, 6, 6, 6, 6, 7, 7, 7, 7, 7, 7, 7, 7, 7, 7, 7, 7, 7, 7, 7, 7, 7, 7, 7, 7, 7, 7, 7, 7, 7, 7, 7, 7, 7, 7, 7, 7, 7, 7, 7, 7, 7, 7, 7, 7, 7, 7, 7, 7, 7, 7, 7, 7, 7, 7, 7, 7, 7, 7, 7, 7, 7, 7, 7, 7, 7, 7, 7, 7, 8, 8, 8, 8, 8, 8, 8, 8, 8, 8, 8, 8, 8, 8, 8, 8, 8, 8, 8, 8, 8, 8, 8, 8, 8, 8, 8, 8, 8, 8, 8, 8, 8, 8, 8, 8, 8, 8, 8, 8, 8, 8, 8, 8, 8, 8, 8, 8, 8, 8, 8, 8, 8, 8, 8, 8, 8, 8, 8, 8, 8, 8, 8, 8, 8, 8, 8, 8, 8, 8, 8, 8, 8, 8, 8, 8, 8, 8, 8, 8, 8, 8, 8, 8, 8, 8, 8, 8, 8, 8, 8, 8, 8, 8, 8, 8, 8, 8, 8, 8, 8, 8, 8, 8, 8, 8, 8, 8, 8, 8, 8, 8, 8, 8, 8, 8, 8, 8, 8, 8, 8, 8, 8, 8, 8, 8, 8, 8]⟩)) (.tmp 21)⟩,
      ⟨(some 23), none, .convI .i64 (.tmp 22)⟩,
      ⟨(some 24), none, .bin .add (.tmp 19) (.tmp 23)⟩,
      ⟨(some 2), none, .mov (.tmp 24)⟩] [2])
  (.ret))))),
  25, [(2, none)], true⟩
theorem ok87 : FunOK Tryd.prog 87 c87 := ⟨⟨Tryd.f87, _, c87.code, Tryd.func87, rfl, by kernel_rfl, rfl, by kernel_rfl, by kernel_rfl⟩⟩
/- internal/strconv.bool2[int] -/
def c88 : AFun := ⟨
  .seq (.ops [⟨(some 2), none, .mov (.const (.int .i64 0))⟩] [0])
  (.seq (.seq (.ops [⟨(some 3), none, .mov (.tmp 0)⟩] [3])
  (.cond (.tmp 3)
    (.seq (.ops [⟨(some 2), none, .mov (.const (.int .i64 1))⟩] [2])
    (.ret))
    (.skip)))
  (.seq (.ops [⟨(some 2), none, .mov (.const (.int .i64 0))⟩] [2])
  (.ret))),
  4, [(2, none)], true⟩
theorem ok88 : FunOK Tryd.prog 88 c88 := ⟨⟨Tryd.f88, _, c88.code, Tryd.func88, rfl, by kernel_rfl, rfl, by kernel_rfl, by kernel_rfl⟩⟩
/- internal/strconv.isPowerOfTwo -/
def c89 : AFun := ⟨
  .seq (.ops [⟨(some 2), none, .mov (.const (.bool false))⟩] [0])
  (.seq (.ops [⟨(some 3), none, .mov (.tmp 0)⟩,
      ⟨(some 4), none, .mov (.tmp 0)⟩,
      ⟨(some 5), none, .bin .sub (.tmp 4) (.const (.int .i64 1))⟩,
      ⟨(some 6), none, .bin .and (.tmp 3) (.tmp 5)⟩,
      ⟨(some 7), none, .bin .eql (.tmp 6) (.const (.int .i64 0))⟩,
      ⟨(some 2), none, .mov (.tmp 7)⟩] [2])
  (.ret)),
  8, [(2, none)], true⟩
theorem ok89 : FunOK Tryd.prog 89 c89 := ⟨⟨Tryd.f89, _, c89.code, Tryd.func89, rfl, by kernel_rfl, rfl, by kernel_rfl, by kernel_rfl⟩⟩
/- math/bits.TrailingZeros -/
def c90 : AFun := ⟨
  .seq (.ops [⟨(some 2), none, .mov (.const (.int .i64 0))⟩] [0])
  (.seq (.cond (.const (.bool false))
    (.seq (.ops [⟨(some 3), none, .mov (.tmp 0)⟩,
        ⟨(some 4), none, .convI .u32 (.tmp 3)⟩,
        ⟨(some 5), none, .callF 95 [(.tmp 4)]⟩,
        ⟨(some 2), none, .mov (.tmp 5)⟩] [2])
    (.ret))
    (.skip))
  (.seq (.ops [⟨(some 6), none, .mov (.tmp 0)⟩,
      ⟨(some 7), none, .callF 96 [(.tmp 6)]⟩,
      ⟨(some 2), none, .mov (.tmp 7)⟩] [2])
  (.ret))),
  8, [(2, none)], true⟩
theorem ok90 : FunOK Tryd.prog 90 c90 := ⟨⟨Tryd.f90, _, c90.code, Tryd.func90, rfl, by kernel_rfl, rfl, by kernel_rfl, by kernel_rfl⟩⟩
/- math/bits.TrailingZeros32 -/
def c95 : AFun := ⟨
  .seq (.ops [⟨(some 2), none, .mov (.const (.int .i64 0))⟩] [0])
  (.seq (.seq (.ops [⟨(some 3), none, .mov (.tmp 0)⟩,
      ⟨(some 4), none, .bin .eql (.tmp 3) (.const (.int .u32 0))⟩] [0, 4])
  (.cond (.tmp 4)
    (.seq (.ops [⟨(some 2), none, .mov (.const (.int .i64 32))⟩] [2])
    (.ret))
    (.skip)))
  (.seq (.ops [⟨(some 5), none, .mov (.tmp 0)⟩,
      ⟨(some 6), none, .mov (.tmp 0)⟩,
      ⟨(some 7), none, .un .neg (.tmp 6)⟩,
      ⟨(some 8), none, .bin .and (.tmp 5) (.tmp 7)⟩,
      ⟨(some 9), none, .bin .mul (.tmp 8) (.const (.int .u32 125613361))⟩,
      ⟨(some 10), none, .bin .shr (.tmp 9) (.const (.int .u64 27))⟩,
      ⟨(some 11), none, .idxA 32 1 (.global 6) (.tmp 10)⟩,
      ⟨(some 12), none, .load none (.tmp 11)⟩,
      ⟨(some 13), none, .convI .i64 (.tmp 12)⟩,
      ⟨(some 2), none, .mov (.tmp 13)⟩] [2])
  (.ret))),
  14, [(2, none)], true⟩
theorem ok95 : FunOK Tryd.prog 95 c95 := ⟨⟨Tryd.f95, _, c95.code, Tryd.func95, rfl, by kernel_rfl, rfl, by kernel_rfl, by kernel_rfl⟩⟩
/- math/bits.TrailingZeros64 -/
def c96 : AFun := ⟨
  .seq (.ops [⟨(some 2), none, .mov (.const (.int .i64 0))⟩] [0])
  (.seq (.seq (.ops [⟨(some 3), none, .mov (.tmp 0)⟩,
      ⟨(some 4), none, .bin .eql (.tmp 3) (.const (.int .u64 0))⟩] [0, 4])
  (.cond (.tmp 4)
    (.seq (.ops [⟨(some 2), none, .mov (.const (.int .i64 64))⟩] [2])
    (.ret))
    (.skip)))
  (.seq (.ops [⟨(some 5), none, .mov (.tmp 0)⟩,
      ⟨(some 6), none, .mov (.tmp 0)⟩,
      ⟨(some 7), none, .un .neg (.tmp 6)⟩,
      ⟨(some 8), none, .bin .and (.tmp 5) (.tmp 7)⟩,
      ⟨(some 9), none, .bin .mul (.tmp 8) (.const (.int .u64 285870213051353865))⟩,
      ⟨(some 10), none, .bin .shr (.tmp 9) (.const (.int .u64 58))⟩,
      ⟨(some 11), none, .idxA 64 1 (.global 7) (.tmp 10)⟩,
      ⟨(some 12), none, .load none (.tmp 11)⟩,
      ⟨(some 13), none, .convI .i64 (.tmp 12)⟩,
      ⟨(some 2), none, .mov (.tmp 13)⟩] [2])
  (.ret))),
  14, [(2, none)], true⟩
theorem ok96 : FunOK Tryd.prog 96 c96 := ⟨⟨Tryd.f96, _, c96.code, Tryd.func96, rfl, by kernel_rfl, rfl, by kernel_rfl, by kernel_rfl⟩⟩
/- (raddle/warp.turning).pass -/
def c114 : AFun := ⟨
  .seq (.ops [⟨(some 3), none, .box 95 (.tmp 0)⟩,
      ⟨(some 6), none, .mov (.const (.slice none 0 0))⟩] [1, 2])
  (.seq (.seq (.ops [⟨(some 8), none, .mov (.tmp 2)⟩,
      ⟨(some 9), none, .bin .rem (.tmp 8) (.const (.int .i64 2))⟩,
      ⟨(some 10), none, .bin .eql (.tmp 9) (.const (.int .i64 0))⟩] [1, 10])
  (.cond (.tmp 10)
    (.seq (.ops [⟨(some 11), none, .mov (.tmp 1)⟩,
        ⟨(some 6), none, .mov (.tmp 11)⟩] [6])
    (.ret))
    (.skip)))
  (.seq (.ops [⟨(some 12), none, .mov (.tmp 1)⟩,
      ⟨(some 13), none, .callF 45 [(.tmp 12)]⟩,
      ⟨(some 7), none, .mov (.tmp 13)⟩] [7])
  (.seq (.ops [⟨(some 14), none, .mov (.tmp 7)⟩,
      ⟨(some 15), none, .callF 115 [(.tmp 14)]⟩] [7])
  (.seq (.ops [⟨(some 16), none, .mov (.tmp 7)⟩,
      ⟨(some 6), none, .mov (.tmp 16)⟩] [6])
  (.ret))))),
  17, [(6, none)], true⟩
theorem ok114 : FunOK Tryd.prog 114 c114 := ⟨⟨Tryd.f114, _, c114.code, Tryd.func114, rfl, by kernel_rfl, rfl, by kernel_rfl, by kernel_rfl⟩⟩
/- slices.Reverse[[]int,int] -/
def c115l0 : AC :=
  .seq (.seq (.ops [⟨(some 7), none, .mov (.tmp 2)⟩,
          ⟨(some 8), none, .mov (.tmp 3)⟩,
          ⟨(some 9), none, .bin .lss (.tmp 7) (.tmp 8)⟩] [0, 2, 3, 9])
      (.cond (.tmp 9)
        (.skip)
        (.exit 0)))
      (.seq (.block 1
        (.drawW [⟨⟨(some 14), none, .mov (.tmp 0)⟩, [], none⟩,
            ⟨⟨(some 15), none, .mov (.tmp 2)⟩, [0], none⟩,
            ⟨⟨(some 16), none, .mov (.tmp 0)⟩, [0, 1], none⟩,
            ⟨⟨(some 17), none, .mov (.tmp 3)⟩, [0, 1, 2], none⟩,
            ⟨⟨(some 18), none, .mov (.tmp 0)⟩, [0, 1, 2, 3], none⟩,
            ⟨⟨(some 19), none, .mov (.tmp 3)⟩, [0, 1, 2, 3, 4], none⟩,
            ⟨⟨(some 20), none, .idxS 1 (.tmp 18) (.tmp 19)⟩, [0, 1, 2, 3], none⟩,
            ⟨⟨(some 21), none, .load none (.tmp 20)⟩, [0, 1, 2, 3], none⟩,
            ⟨⟨(some 22), none, .mov (.tmp 0)⟩, [0, 1, 2, 3, 4, 5, 6, 7], none⟩,
            ⟨⟨(some 23), none, .mov (.tmp 2)⟩, [0, 1, 2, 3, 4, 5, 6, 7, 8], none⟩,
            ⟨⟨(some 24), none, .idxS 1 (.tmp 22) (.tmp 23)⟩, [0, 1, 2, 3, 4, 5, 6, 7], none⟩,
            ⟨⟨(some 25), none, .load none (.tmp 24)⟩, [0, 1, 2, 3, 4, 5, 6, 7], none⟩,
            ⟨⟨(some 26), none, .idxS 1 (.tmp 14) (.tmp 15)⟩, [2, 3], none⟩,
            ⟨⟨none, none, .store 1 (.tmp 26) (.tmp 21)⟩, [2, 3], none⟩] [⟨(some 27), none, .idxS 1 (.tmp 16) (.tmp 17)⟩,
            ⟨none, none, .store 1 (.tmp 27) (.tmp 25)⟩] [0, 2, 3]))
      (.ops [⟨(some 10), none, .mov (.tmp 2)⟩,
          ⟨(some 11), none, .bin .add (.tmp 10) (.const (.int .i64 1))⟩,
          ⟨(some 12), none, .mov (.tmp 3)⟩,
          ⟨(some 13), none, .bin .sub (.tmp 12) (.const (.int .i64 1))⟩,
          ⟨(some 2), none, .mov (.tmp 11)⟩,
          ⟨(some 3), none, .mov (.tmp 13)⟩] [0, 2, 3]))
def c115 : AFun := ⟨
  .seq (.ops [⟨(some 4), none, .mov (.tmp 0)⟩,
      ⟨(some 5), none, .len false (.tmp 4)⟩,
      ⟨(some 6), none, .bin .sub (.tmp 5) (.const (.int .i64 1))⟩,
      ⟨(some 2), none, .mov (.const (.int .i64 0))⟩,
      ⟨(some 3), none, .mov (.tmp 6)⟩] [0, 2, 3])
  (.block 0
    (.loop [0, 2, 3]
      c115l0)),
  28, [], false⟩
theorem ok115 : FunOK Tryd.prog 115 c115 := ⟨⟨Tryd.f115, _, c115.code, Tryd.func115, rfl, by kernel_rfl, rfl, by kernel_rfl, by kernel_rfl⟩⟩
/- (raddle/warp.straight).pass -/
def c116 : AFun := ⟨
  .seq (.ops [⟨(some 3), none, .box 96 (.tmp 0)⟩,
      ⟨(some 6), none, .mov (.const (.slice none 0 0))⟩] [1])
  (.seq (.ops [⟨(some 7), none, .mov (.tmp 1)⟩,
      ⟨(some 6), none, .mov (.tmp 7)⟩] [6])
  (.ret)),
  8, [(6, none)], true⟩
theorem ok116 : FunOK Tryd.prog 116 c116 := ⟨⟨Tryd.f116, _, c116.code, Tryd.func116, rfl, by kernel_rfl, rfl, by kernel_rfl, by kernel_rfl⟩⟩
def fns : FuncId → Option AFun
  | 4 => some c4
  | 5 => some c5
  | 10 => some c10
  | 12 => some c12
  | 14 => some c14
  | 15 => some c15
  | 16 => some c16
  | 17 => some c17
  | 21 => some c21
  | 22 => some c22
  | 23 => some c23
  | 24 => some c24
  | 25 => some c25
  | 26 => some c26
  | 27 => some c27
  | 32 => some c32
  | 33 => some c33
  | 34 => some c34
  | 35 => some c35
  | 36 => some c36
  | 37 => some c37
  | 39 => some c39
  | 40 => some c40
  | 41 => some c41
  | 42 => some c42
  | 43 => some c43
  | 44 => some c44
  | 45 => some c45
  | 51 => some c51
  | 52 => some c52
  | 53 => some c53
  | 54 => some c54
  | 55 => some c55
  | 62 => some c62
  | 74 => some c74
  | 75 => some c75
  | 76 => some c76
  | 77 => some c77
  | 86 => some c86
  | 87 => some c87
  | 88 => some c88
  | 89 => some c89
  | 90 => some c90
  | 95 => some c95
  | 96 => some c96
  | 114 => some c114
  | 115 => some c115
  | 116 => some c116
  | _ => none
theorem fns_ok : FunsOK Tryd.prog fns := by
  intro f af h
  unfold fns at h
  split at h
  · cases h; exact ok4
  · cases h; exact ok5
  · cases h; exact ok10
  · cases h; exact ok12
  · cases h; exact ok14
  · cases h; exact ok15
  · cases h; exact ok16
  · cases h; exact ok17
  · cases h; exact ok21
  · cases h; exact ok22
  · cases h; exact ok23
  · cases h; exact ok24
  · cases h; exact ok25
  · cases h; exact ok26
  · cases h; exact ok27
  · cases h; exact ok32
  · cases h; exact ok33
  · cases h; exact ok34
  · cases h; exact ok35
  · cases h; exact ok36
  · cases h; exact ok37
  · cases h; exact ok39
  · cases h; exact ok40
  · cases h; exact ok41
  · cases h; exact ok42
  · cases h; exact ok43
  · cases h; exact ok44
  · cases h; exact ok45
  · cases h; exact ok51
  · cases h; exact ok52
  · cases h; exact ok53
  · cases h; exact ok54
  · cases h; exact ok55
  · cases h; exact ok62
  · cases h; exact ok74
  · cases h; exact ok75
  · cases h; exact ok76
  · cases h; exact ok77
  · cases h; exact ok86
  · cases h; exact ok87
  · cases h; exact ok88
  · cases h; exact ok89
  · cases h; exact ok90
  · cases h; exact ok95
  · cases h; exact ok96
  · cases h; exact ok114
  · cases h; exact ok115
  · cases h; exact ok116
  · cases h
end Go.Proofs.YtgglaaldlegckaaDoor
namespace Go.Proofs.YtgglaaldlegckaaDoor
open Go Go.Itp
set_option maxRecDepth 100000
def prims0 : List (FuncId × Prim × TypeId) := [(61, .same, 0)]
theorem prims_all : AllPrims Tryd.prog prims0 :=
  ⟨⟨⟨Tryd.f61, Tryd.func61, by kernel_rfl, by kernel_rfl, by kernel_rfl, rfl⟩⟩, trivial⟩
theorem run_alive : runsTo true (body (callP (fun _ _ => none) many fns (primsOf prims0) 40) c22 [] St.empty) = true := by kernel_rfl
end Go.Proofs.YtgglaaldlegckaaDoor
namespace Go.Proofs.YtgglaaldlegckaaDoor
open Go Go.Itp
open Go.RowKit (Below)
set_option linter.unusedVariables false
set_option maxRecDepth 100000
theorem own : ownKnob Tryd.prog.godebug = none := by kernel_rfl
theorem mixed : Tryd.prog.follows .mixedOrders = true := by kernel_rfl
def known : List (FuncId × List Value × Bool) := [(22, [], true)]
theorem has_alive : ∃ fn c, Tryd.prog.funcs[(22 : Nat)]? = some fn ∧ fn.body = some c ∧ (fn.name == "runtime.NumGoroutine") = false := ⟨Tryd.f22, _, Tryd.func22, rfl, by kernel_rfl⟩
def noOld : Nat → Nat → Option Value := fun _ _ => none
theorem old_none (W : World) : OldIs noOld W := fun b o v e => by cases e
theorem known_ok : Answers Tryd.prog noOld known :=
  ⟨answer_of mixed fns_ok (fun w _ => primsOf_ok prims0 prims_all w) (f := 22) (af := c22) rfl rfl run_alive, has_alive, trivial⟩
abbrev EN (w : World) (n : Nat) : Env := callP (oldOf w) many fns (orElseP (primT known) (primsOf prims0)) n
theorem law_of {W : World} {f : FuncId} {af : AFun} (hf : fns f = some af) {xs : List Value} (hxs : idsL 0 xs = []) (n : Nat) {v : Value} {s' : St} (hb : body (EN W n) af xs St.empty = some (v, s')) (hv : ids 0 v = []) :
    Calls Tryd.prog f xs.toArray W fun e w' => e = .returned v ∧ Below W.heap.size W w' :=
  law_at mixed fns_ok (oldOf_ok W) (orElse_ok (primT_ok (old_none W) known known_ok) (primsOf_ok prims0 prims_all W)) hf hxs n hb hv
theorem alive_o (w : World) (n : Nat) (st : VSt) : VSpecO (EN w (n + 1)) 22 st [] (.sc (.bool true)) := by
  intro s μ F xsI w0 hsr hx
  have : xsI = [] := by simpa [VRepL] using hx
  subst this
  exact ⟨.bool true, rfl, fun w => .mksc rfl⟩
end Go.Proofs.YtgglaaldlegckaaDoor
namespace Go.Proofs.YtgglaaldlegckaaDoor
open Go Go.Itp
set_option maxRecDepth 100000
set_option maxHeartbeats 1000000
set_option linter.unusedSimpArgs false
def iD (x : Int) : D := .sc (.int .i64 x)
theorem iD_dv (x : Int) : dv (iD x) = .sc (.int .i64 x) := (rfl)
def col (x : Int) : Bool := decide (0 ≤ x) && decide (x ≤ 15)
def chk (l : List Int) : Int := if 4000 < l.length then 4 else if l.all col then 0 else 8
def fb (l : List Int) : Int := if l.all col then -1 else (l.findIdx (fun x => !col x) : Nat)
theorem fb_at {l : List Int} {k : Nat} (hk : k < l.length) (h : ∀ j, j < k → col l[j]! = true) (h2 : col l[k]! = false) : fb l = k := by
  unfold fb
  rw [getElem!_pos l k hk] at h2
  rw [if_neg (fun h => by rw [List.all_eq_true] at h; have := h _ (List.getElem_mem hk); rw [h2] at this; cases this)]
  congr 1
  rw [List.findIdx_eq hk]
  refine ⟨by simp [h2], fun j hj => ?_⟩
  have := h j hj
  rw [getElem!_pos l j (by omega)] at this
  simp [this]
theorem fb_end {l : List Int} (h : ∀ j, j < l.length → col l[j]! = true) : fb l = -1 ∧ l.all col = true := by
  have : l.all col = true := by
    rw [List.all_eq_true]
    intro x hx
    obtain ⟨j, hj, rfl⟩ := List.getElem_of_mem hx
    have := h j hj
    rwa [getElem!_pos l j hj] at this
  exact ⟨if_pos this, this⟩
theorem all_at {l : List Int} {k : Nat} (hk : k < l.length) (h2 : col l[k]! = false) : l.all col = false := by
  rw [← Bool.not_eq_true, List.all_eq_true]
  intro h
  rw [getElem!_pos l k hk] at h2
  rw [h _ (List.getElem_mem hk)] at h2
  cases h2
section
variable (w : World) (n : Nat)
theorem colour_p (x : Int) : VSpec (EN w (n + 1)) 41 [.sc (.int .i64 x)] (.sc (.bool (col x))) ⟨[], 0, 0⟩ := by
  refine vspec_flat rfl rfl (fun _ _ => rfl) (Nat.le_of_ble_eq_true rfl) (oldVals w) rfl fun C hC h0 => ?_
  by_cases h1 : 0 ≤ x <;> by_cases h2 : x ≤ 15
  all_goals
    have e : col x = (decide (0 ≤ x) && decide (x ≤ 15)) := rfl
    simp only [h1, h2, decide_true, decide_false, Bool.and_true, Bool.and_false, Bool.true_and, Bool.false_and] at e
    rw [e]
    repeat' (first | (simp (disch := first | omega | assumption | (refine @id ((_ : Bool) = _) ?_; exact id (by with_unfolding_all rfl)) | (exact Or.inl rfl) | (exact Or.inl trivial) | (exact okL_map _ (fun _ => rfl) _) | (simp only [VVlen] <;> omega) | fail) only [VV0, VV1, VV2, VV3, VV4, VV5, VV6, VV7, VV8, mkFnV, vargs, slotsL, opdsA, Nat.reduceEqDiff, Nat.reduceLT, Nat.reduceAdd, Nat.reduceBEq, Int.reduceAdd, Int.reduceSub, Int.reduceLT, Int.reduceLE, Int.reduceEq, Int.reduceNeg, ↓reduceIte, reduceCtorEq, scL, scD, expand, List.replicate, c41]) | (refine gC_drawW ?_) | (refine gI_dec (fun _ => ?_) (fun _ => ?_)) | (refine gG_dec (fun _ => ?_) (fun _ => ?_)) | (refine gPG_dec (fun _ => ?_) (fun _ => ?_)) | (refine gI_var (fun _ => ?_) (fun _ => ?_)) | (refine gG_var (fun _ => ?_) (fun _ => ?_)) | (refine gPG_var (fun _ => ?_) (fun _ => ?_)))
    first | (exfalso; omega) | exact weak_flat rfl h0 rfl
theorem check1_p (x : Int) : VSpec (EN w (n + 2)) 40 [.sc (.int .i64 x)] (.sc (.bool (!col x))) ⟨[], 0, 0⟩ := by
  refine vspec_flat rfl rfl (fun _ _ => rfl) (Nat.le_of_ble_eq_true rfl) (oldVals w) rfl fun C hC h0 => ?_
  repeat' (first | (simp (disch := first | omega | assumption | (refine @id ((_ : Bool) = _) ?_; exact id (by with_unfolding_all rfl)) | (exact Or.inl rfl) | (exact Or.inl trivial) | (exact okL_map _ (fun _ => rfl) _) | (simp only [VVlen] <;> omega) | fail) only [VV0, VV1, VV2, VV3, VV4, VV5, VV6, VV7, VV8, mkFnV, vargs, slotsL, opdsA, Nat.reduceEqDiff, Nat.reduceLT, Nat.reduceAdd, Nat.reduceBEq, Int.reduceAdd, Int.reduceSub, Int.reduceLT, Int.reduceLE, Int.reduceEq, Int.reduceNeg, ↓reduceIte, reduceCtorEq, scL, scD, expand, List.replicate, c40]) | (refine gC_drawW ?_) | (refine gI_dec (fun _ => ?_) (fun _ => ?_)) | (refine gG_dec (fun _ => ?_) (fun _ => ?_)) | (refine gPG_dec (fun _ => ?_) (fun _ => ?_)) | (refine gI_var (fun _ => ?_) (fun _ => ?_)) | (refine gG_var (fun _ => ?_) (fun _ => ?_)) | (refine gPG_var (fun _ => ?_) (fun _ => ?_)))
  refine callV_flat ((fun st => (colour_p w n x).of hC rfl st rfl) _) ?_
  repeat' (first | (simp (disch := first | omega | assumption | (refine @id ((_ : Bool) = _) ?_; exact id (by with_unfolding_all rfl)) | (exact Or.inl rfl) | (exact Or.inl trivial) | (exact okL_map _ (fun _ => rfl) _) | (simp only [VVlen] <;> omega) | fail) only [VV0, VV1, VV2, VV3, VV4, VV5, VV6, VV7, VV8, mkFnV, vargs, slotsL, opdsA, Nat.reduceEqDiff, Nat.reduceLT, Nat.reduceAdd, Nat.reduceBEq, Int.reduceAdd, Int.reduceSub, Int.reduceLT, Int.reduceLE, Int.reduceEq, Int.reduceNeg, ↓reduceIte, reduceCtorEq, scL, scD, expand, List.replicate]) | (refine gC_drawW ?_) | (refine gI_dec (fun _ => ?_) (fun _ => ?_)) | (refine gG_dec (fun _ => ?_) (fun _ => ?_)) | (refine gPG_dec (fun _ => ?_) (fun _ => ?_)) | (refine gI_var (fun _ => ?_) (fun _ => ?_)) | (refine gG_var (fun _ => ?_) (fun _ => ?_)) | (refine gPG_var (fun _ => ?_) (fun _ => ?_)))
  exact weak_flat rfl h0 rfl
theorem indexFunc_p (s : Nat) (l : List Int) (hl : l.length ≤ 140737488351232) : VSpec (EN w (n + 3)) 55 [.sl s l.length (l.map iD), .sc (.func (.func 40) #[] #[])] (.sc (.int .i64 (fb l))) ⟨[], 0, 0⟩ := by
  refine vspec_flat rfl rfl (fun _ _ => rfl) (Nat.le_of_ble_eq_true rfl) (oldVals w) rfl fun C hC h0 => ?_
  simp (disch := first | omega | assumption | (refine @id ((_ : Bool) = _) ?_; exact id (by with_unfolding_all rfl)) | (exact Or.inl rfl) | (exact Or.inl trivial) | (exact okL_map _ (fun _ => rfl) _) | (simp only [VVlen] <;> omega) | fail) only [VV0, VV1, VV2, VV3, VV4, VV5, VV6, VV7, VV8, mkFnV, vargs, slotsL, opdsA, Nat.reduceEqDiff, Nat.reduceLT, Nat.reduceAdd, Nat.reduceBEq, Int.reduceAdd, Int.reduceSub, Int.reduceLT, Int.reduceLE, Int.reduceEq, Int.reduceNeg, ↓reduceIte, reduceCtorEq, scL, scD, expand, List.replicate, c55]
  refine g_while (fun m fr st => ∃ k : Nat, m = l.length - k ∧ k ≤ l.length ∧ (∀ j, j < k → col l[j]! = true) ∧ fr = [(0, .sl s l.length (l.map iD)), (1, .sc (.func (.func 40) #[] #[])), (7, .sc (.int .i64 l.length)), (8, .sc (.int .i64 k))] ∧ st = ⟨[], 0, 0⟩) l.length ?_ ⟨_, _, .refl _ _, 0, ?_⟩ ?_
  · rw [hC, callP_rounds]; unfold many; omega
  · exact ⟨by omega, by omega, (fun j hj => absurd hj (Nat.not_lt_zero _)), rfl, rfl⟩
  · rintro m fr st ⟨k, rfl, hk, ha, rfl, rfl⟩
    by_cases hlt : k < l.length
    · repeat' (first | (simp (disch := first | omega | assumption | (refine @id ((_ : Bool) = _) ?_; exact id (by with_unfolding_all rfl)) | (exact Or.inl rfl) | (exact Or.inl trivial) | (exact okL_map _ (fun _ => rfl) _) | (simp only [VVlen] <;> omega) | fail) only [VV0, VV1, VV2, VV3, VV4, VV5, VV6, VV7, VV8, mkFnV, vargs, slotsL, opdsA, Nat.reduceEqDiff, Nat.reduceLT, Nat.reduceAdd, Nat.reduceBEq, Int.reduceAdd, Int.reduceSub, Int.reduceLT, Int.reduceLE, Int.reduceEq, Int.reduceNeg, ↓reduceIte, reduceCtorEq, scL, scD, expand, List.replicate, c55l0, iD_dv]) | (refine gC_drawW ?_) | (refine gI_dec (fun _ => ?_) (fun _ => ?_)) | (refine gG_dec (fun _ => ?_) (fun _ => ?_)) | (refine gPG_dec (fun _ => ?_) (fun _ => ?_)) | (refine gI_var (fun _ => ?_) (fun _ => ?_)) | (refine gG_var (fun _ => ?_) (fun _ => ?_)) | (refine gPG_var (fun _ => ?_) (fun _ => ?_)))
      refine callV_flat ((fun st => (check1_p w n l[k]!).of hC rfl st rfl) _) ?_
      cases hc : col l[k]!
      · have := fb_at hlt ha hc
        rw [this]
        repeat' (first | (simp (disch := first | omega | assumption | (refine @id ((_ : Bool) = _) ?_; exact id (by with_unfolding_all rfl)) | (exact Or.inl rfl) | (exact Or.inl trivial) | (exact okL_map _ (fun _ => rfl) _) | (simp only [VVlen] <;> omega) | fail) only [VV0, VV1, VV2, VV3, VV4, VV5, VV6, VV7, VV8, mkFnV, vargs, slotsL, opdsA, Nat.reduceEqDiff, Nat.reduceLT, Nat.reduceAdd, Nat.reduceBEq, Int.reduceAdd, Int.reduceSub, Int.reduceLT, Int.reduceLE, Int.reduceEq, Int.reduceNeg, ↓reduceIte, reduceCtorEq, scL, scD, expand, List.replicate]) | (refine gC_drawW ?_) | (refine gI_dec (fun _ => ?_) (fun _ => ?_)) | (refine gG_dec (fun _ => ?_) (fun _ => ?_)) | (refine gPG_dec (fun _ => ?_) (fun _ => ?_)) | (refine gI_var (fun _ => ?_) (fun _ => ?_)) | (refine gG_var (fun _ => ?_) (fun _ => ?_)) | (refine gPG_var (fun _ => ?_) (fun _ => ?_)))
        exact weak_flat rfl h0 rfl
      · repeat' (first | (simp (disch := first | omega | assumption | (refine @id ((_ : Bool) = _) ?_; exact id (by with_unfolding_all rfl)) | (exact Or.inl rfl) | (exact Or.inl trivial) | (exact okL_map _ (fun _ => rfl) _) | (simp only [VVlen] <;> omega) | fail) only [VV0, VV1, VV2, VV3, VV4, VV5, VV6, VV7, VV8, mkFnV, vargs, slotsL, opdsA, Nat.reduceEqDiff, Nat.reduceLT, Nat.reduceAdd, Nat.reduceBEq, Int.reduceAdd, Int.reduceSub, Int.reduceLT, Int.reduceLE, Int.reduceEq, Int.reduceNeg, ↓reduceIte, reduceCtorEq, scL, scD, expand, List.replicate]) | (refine gC_drawW ?_) | (refine gI_dec (fun _ => ?_) (fun _ => ?_)) | (refine gG_dec (fun _ => ?_) (fun _ => ?_)) | (refine gPG_dec (fun _ => ?_) (fun _ => ?_)) | (refine gI_var (fun _ => ?_) (fun _ => ?_)) | (refine gG_var (fun _ => ?_) (fun _ => ?_)) | (refine gPG_var (fun _ => ?_) (fun _ => ?_)))
        exact ⟨_, _, _, by omega, .refl _ _, k + 1, rfl, hlt, (fun j hj => by rcases Nat.lt_succ_iff_lt_or_eq.1 hj with h | h; exact ha j h; subst h; exact hc), rfl, rfl⟩
    · have : k = l.length := by omega
      subst this
      rw [(fb_end ha).1]
      repeat' (first | (simp (disch := first | omega | assumption | (refine @id ((_ : Bool) = _) ?_; exact id (by with_unfolding_all rfl)) | (exact Or.inl rfl) | (exact Or.inl trivial) | (exact okL_map _ (fun _ => rfl) _) | (simp only [VVlen] <;> omega) | fail) only [VV0, VV1, VV2, VV3, VV4, VV5, VV6, VV7, VV8, mkFnV, vargs, slotsL, opdsA, Nat.reduceEqDiff, Nat.reduceLT, Nat.reduceAdd, Nat.reduceBEq, Int.reduceAdd, Int.reduceSub, Int.reduceLT, Int.reduceLE, Int.reduceEq, Int.reduceNeg, ↓reduceIte, reduceCtorEq, scL, scD, expand, List.replicate, c55l0, iD_dv]) | (refine gC_drawW ?_) | (refine gI_dec (fun _ => ?_) (fun _ => ?_)) | (refine gG_dec (fun _ => ?_) (fun _ => ?_)) | (refine gPG_dec (fun _ => ?_) (fun _ => ?_)) | (refine gI_var (fun _ => ?_) (fun _ => ?_)) | (refine gG_var (fun _ => ?_) (fun _ => ?_)) | (refine gPG_var (fun _ => ?_) (fun _ => ?_)))
      exact weak_flat rfl h0 rfl
theorem contains_p (s : Nat) (l : List Int) (hl : l.length ≤ 140737488351232) : VSpec (EN w (n + 4)) 39 [.sl s l.length (l.map iD), .sc (.func (.func 40) #[] #[])] (.sc (.bool (!l.all col))) ⟨[], 0, 0⟩ := by
  refine vspec_flat rfl rfl (fun _ _ => rfl) (Nat.le_of_ble_eq_true rfl) (oldVals w) rfl fun C hC h0 => ?_
  repeat' (first | (simp (disch := first | omega | assumption | (refine @id ((_ : Bool) = _) ?_; exact id (by with_unfolding_all rfl)) | (exact Or.inl rfl) | (exact Or.inl trivial) | (exact okL_map _ (fun _ => rfl) _) | (simp only [VVlen] <;> omega) | fail) only [VV0, VV1, VV2, VV3, VV4, VV5, VV6, VV7, VV8, mkFnV, vargs, slotsL, opdsA, Nat.reduceEqDiff, Nat.reduceLT, Nat.reduceAdd, Nat.reduceBEq, Int.reduceAdd, Int.reduceSub, Int.reduceLT, Int.reduceLE, Int.reduceEq, Int.reduceNeg, ↓reduceIte, reduceCtorEq, scL, scD, expand, List.replicate, c39]) | (refine gC_drawW ?_) | (refine gI_dec (fun _ => ?_) (fun _ => ?_)) | (refine gG_dec (fun _ => ?_) (fun _ => ?_)) | (refine gPG_dec (fun _ => ?_) (fun _ => ?_)) | (refine gI_var (fun _ => ?_) (fun _ => ?_)) | (refine gG_var (fun _ => ?_) (fun _ => ?_)) | (refine gPG_var (fun _ => ?_) (fun _ => ?_)))
  refine callV_flat ((fun st => (indexFunc_p w n s l hl).of hC rfl st rfl) _) ?_
  have e : (!l.all col) = decide (0 ≤ fb l) := by
    unfold fb
    cases l.all col
    · simp
    · simp
  rw [e]
  repeat' (first | (simp (disch := first | omega | assumption | (refine @id ((_ : Bool) = _) ?_; exact id (by with_unfolding_all rfl)) | (exact Or.inl rfl) | (exact Or.inl trivial) | (exact okL_map _ (fun _ => rfl) _) | (simp only [VVlen] <;> omega) | fail) only [VV0, VV1, VV2, VV3, VV4, VV5, VV6, VV7, VV8, mkFnV, vargs, slotsL, opdsA, Nat.reduceEqDiff, Nat.reduceLT, Nat.reduceAdd, Nat.reduceBEq, Int.reduceAdd, Int.reduceSub, Int.reduceLT, Int.reduceLE, Int.reduceEq, Int.reduceNeg, ↓reduceIte, reduceCtorEq, scL, scD, expand, List.replicate]) | (refine gC_drawW ?_) | (refine gI_dec (fun _ => ?_) (fun _ => ?_)) | (refine gG_dec (fun _ => ?_) (fun _ => ?_)) | (refine gPG_dec (fun _ => ?_) (fun _ => ?_)) | (refine gI_var (fun _ => ?_) (fun _ => ?_)) | (refine gG_var (fun _ => ?_) (fun _ => ?_)) | (refine gPG_var (fun _ => ?_) (fun _ => ?_)))
  exact weak_flat rfl h0 rfl
theorem check_p (s : Nat) (l : List Int) (hl : l.length ≤ 140737488351232) : VSpec (EN w (n + 5)) 14 [.sl s l.length (l.map iD)] (.sc (.int .i64 (chk l))) ⟨[], 0, 0⟩ := by
  refine vspec_flat rfl rfl (fun _ _ => rfl) (Nat.le_of_ble_eq_true rfl) (oldVals w) rfl fun C hC h0 => ?_
  by_cases h4 : 4000 < l.length
  · have e : chk l = 4 := if_pos h4
    rw [e]
    repeat' (first | (simp (disch := first | omega | assumption | (refine @id ((_ : Bool) = _) ?_; exact id (by with_unfolding_all rfl)) | (exact Or.inl rfl) | (exact Or.inl trivial) | (exact okL_map _ (fun _ => rfl) _) | (simp only [VVlen] <;> omega) | fail) only [VV0, VV1, VV2, VV3, VV4, VV5, VV6, VV7, VV8, mkFnV, vargs, slotsL, opdsA, Nat.reduceEqDiff, Nat.reduceLT, Nat.reduceAdd, Nat.reduceBEq, Int.reduceAdd, Int.reduceSub, Int.reduceLT, Int.reduceLE, Int.reduceEq, Int.reduceNeg, ↓reduceIte, reduceCtorEq, scL, scD, expand, List.replicate, c14]) | (refine gC_drawW ?_) | (refine gI_dec (fun _ => ?_) (fun _ => ?_)) | (refine gG_dec (fun _ => ?_) (fun _ => ?_)) | (refine gPG_dec (fun _ => ?_) (fun _ => ?_)) | (refine gI_var (fun _ => ?_) (fun _ => ?_)) | (refine gG_var (fun _ => ?_) (fun _ => ?_)) | (refine gPG_var (fun _ => ?_) (fun _ => ?_)))
    exact weak_flat rfl h0 rfl
  have e : chk l = if l.all col then 0 else 8 := if_neg h4
  rw [e]
  repeat' (first | (simp (disch := first | omega | assumption | (refine @id ((_ : Bool) = _) ?_; exact id (by with_unfolding_all rfl)) | (exact Or.inl rfl) | (exact Or.inl trivial) | (exact okL_map _ (fun _ => rfl) _) | (simp only [VVlen] <;> omega) | fail) only [VV0, VV1, VV2, VV3, VV4, VV5, VV6, VV7, VV8, mkFnV, vargs, slotsL, opdsA, Nat.reduceEqDiff, Nat.reduceLT, Nat.reduceAdd, Nat.reduceBEq, Int.reduceAdd, Int.reduceSub, Int.reduceLT, Int.reduceLE, Int.reduceEq, Int.reduceNeg, ↓reduceIte, reduceCtorEq, scL, scD, expand, List.replicate, c14]) | (refine gC_drawW ?_) | (refine gI_dec (fun _ => ?_) (fun _ => ?_)) | (refine gG_dec (fun _ => ?_) (fun _ => ?_)) | (refine gPG_dec (fun _ => ?_) (fun _ => ?_)) | (refine gI_var (fun _ => ?_) (fun _ => ?_)) | (refine gG_var (fun _ => ?_) (fun _ => ?_)) | (refine gPG_var (fun _ => ?_) (fun _ => ?_)))
  refine callV_flat ((fun st => (contains_p w n s l hl).of hC rfl st rfl) _) ?_
  cases l.all col
  · repeat' (first | (simp (disch := first | omega | assumption | (refine @id ((_ : Bool) = _) ?_; exact id (by with_unfolding_all rfl)) | (exact Or.inl rfl) | (exact Or.inl trivial) | (exact okL_map _ (fun _ => rfl) _) | (simp only [VVlen] <;> omega) | fail) only [VV0, VV1, VV2, VV3, VV4, VV5, VV6, VV7, VV8, mkFnV, vargs, slotsL, opdsA, Nat.reduceEqDiff, Nat.reduceLT, Nat.reduceAdd, Nat.reduceBEq, Int.reduceAdd, Int.reduceSub, Int.reduceLT, Int.reduceLE, Int.reduceEq, Int.reduceNeg, ↓reduceIte, reduceCtorEq, scL, scD, expand, List.replicate]) | (refine gC_drawW ?_) | (refine gI_dec (fun _ => ?_) (fun _ => ?_)) | (refine gG_dec (fun _ => ?_) (fun _ => ?_)) | (refine gPG_dec (fun _ => ?_) (fun _ => ?_)) | (refine gI_var (fun _ => ?_) (fun _ => ?_)) | (refine gG_var (fun _ => ?_) (fun _ => ?_)) | (refine gPG_var (fun _ => ?_) (fun _ => ?_)))
    exact weak_flat rfl h0 rfl
  · repeat' (first | (simp (disch := first | omega | assumption | (refine @id ((_ : Bool) = _) ?_; exact id (by with_unfolding_all rfl)) | (exact Or.inl rfl) | (exact Or.inl trivial) | (exact okL_map _ (fun _ => rfl) _) | (simp only [VVlen] <;> omega) | fail) only [VV0, VV1, VV2, VV3, VV4, VV5, VV6, VV7, VV8, mkFnV, vargs, slotsL, opdsA, Nat.reduceEqDiff, Nat.reduceLT, Nat.reduceAdd, Nat.reduceBEq, Int.reduceAdd, Int.reduceSub, Int.reduceLT, Int.reduceLE, Int.reduceEq, Int.reduceNeg, ↓reduceIte, reduceCtorEq, scL, scD, expand, List.replicate]) | (refine gC_drawW ?_) | (refine gI_dec (fun _ => ?_) (fun _ => ?_)) | (refine gG_dec (fun _ => ?_) (fun _ => ?_)) | (refine gPG_dec (fun _ => ?_) (fun _ => ?_)) | (refine gI_var (fun _ => ?_) (fun _ => ?_)) | (refine gG_var (fun _ => ?_) (fun _ => ?_)) | (refine gPG_var (fun _ => ?_) (fun _ => ?_)))
    exact weak_flat rfl h0 rfl
theorem rcheck_p (s : Nat) (l : List Int) (hl : l.length ≤ 140737488351232) : VSpec (EN w (n + 1)) 15 [.sl s l.length (l.map iD)] (.sc (.int .i64 (chk l))) ⟨[], 0, 0⟩ := by
  refine vspec_flat rfl rfl (fun _ _ => rfl) (Nat.le_of_ble_eq_true rfl) (oldVals w) rfl fun C hC h0 => ?_
  by_cases h4 : 4000 < l.length
  · have e : chk l = 4 := if_pos h4
    rw [e]
    repeat' (first | (simp (disch := first | omega | assumption | (refine @id ((_ : Bool) = _) ?_; exact id (by with_unfolding_all rfl)) | (exact Or.inl rfl) | (exact Or.inl trivial) | (exact okL_map _ (fun _ => rfl) _) | (simp only [VVlen] <;> omega) | fail) only [VV0, VV1, VV2, VV3, VV4, VV5, VV6, VV7, VV8, mkFnV, vargs, slotsL, opdsA, Nat.reduceEqDiff, Nat.reduceLT, Nat.reduceAdd, Nat.reduceBEq, Int.reduceAdd, Int.reduceSub, Int.reduceLT, Int.reduceLE, Int.reduceEq, Int.reduceNeg, ↓reduceIte, reduceCtorEq, scL, scD, expand, List.replicate, c15]) | (refine gC_drawW ?_) | (refine gI_dec (fun _ => ?_) (fun _ => ?_)) | (refine gG_dec (fun _ => ?_) (fun _ => ?_)) | (refine gPG_dec (fun _ => ?_) (fun _ => ?_)) | (refine gI_var (fun _ => ?_) (fun _ => ?_)) | (refine gG_var (fun _ => ?_) (fun _ => ?_)) | (refine gPG_var (fun _ => ?_) (fun _ => ?_)))
    exact weak_flat rfl h0 rfl
  have e : chk l = if l.all col then 0 else 8 := if_neg h4
  rw [e]
  simp (disch := first | omega | assumption | (refine @id ((_ : Bool) = _) ?_; exact id (by with_unfolding_all rfl)) | (exact Or.inl rfl) | (exact Or.inl trivial) | (exact okL_map _ (fun _ => rfl) _) | (simp only [VVlen] <;> omega) | fail) only [VV0, VV1, VV2, VV3, VV4, VV5, VV6, VV7, VV8, mkFnV, vargs, slotsL, opdsA, Nat.reduceEqDiff, Nat.reduceLT, Nat.reduceAdd, Nat.reduceBEq, Int.reduceAdd, Int.reduceSub, Int.reduceLT, Int.reduceLE, Int.reduceEq, Int.reduceNeg, ↓reduceIte, reduceCtorEq, scL, scD, expand, List.replicate, c15]
  refine g_while (fun m fr st => ∃ k : Nat, m = l.length - k ∧ k ≤ l.length ∧ (∀ j, j < k → col l[j]! = true) ∧ fr = [(0, .sl s l.length (l.map iD)), (3, .sc (.int .i64 k))] ∧ st = ⟨[], 0, 0⟩) l.length ?_ ⟨_, _, .refl _ _, 0, ?_⟩ ?_
  · rw [hC, callP_rounds]; unfold many; omega
  · exact ⟨by omega, by omega, (fun j hj => absurd hj (Nat.not_lt_zero _)), rfl, rfl⟩
  · rintro m fr st ⟨k, rfl, hk, ha, rfl, rfl⟩
    by_cases hlt : k < l.length
    · cases hc : col l[k]!
      · rw [if_neg (by rw [all_at hlt hc]; exact Bool.false_ne_true)]
        have hc' : ¬ (0 ≤ l[k]! ∧ l[k]! ≤ 15) := by
          intro h
          have : col l[k]! = true := by unfold col; rw [Bool.and_eq_true]; exact ⟨decide_eq_true h.1, decide_eq_true h.2⟩
          rw [hc] at this; cases this
        generalize hx : l[k]! = x at hc'
        by_cases h1 : x < 0
        · repeat' (first | (simp (disch := first | omega | assumption | (refine @id ((_ : Bool) = _) ?_; exact id (by with_unfolding_all rfl)) | (exact Or.inl rfl) | (exact Or.inl trivial) | (exact okL_map _ (fun _ => rfl) _) | (simp only [VVlen] <;> omega) | fail) only [VV0, VV1, VV2, VV3, VV4, VV5, VV6, VV7, VV8, mkFnV, vargs, slotsL, opdsA, Nat.reduceEqDiff, Nat.reduceLT, Nat.reduceAdd, Nat.reduceBEq, Int.reduceAdd, Int.reduceSub, Int.reduceLT, Int.reduceLE, Int.reduceEq, Int.reduceNeg, ↓reduceIte, reduceCtorEq, scL, scD, expand, List.replicate, c15l0, iD_dv, hx]) | (refine gC_drawW ?_) | (refine gI_dec (fun _ => ?_) (fun _ => ?_)) | (refine gG_dec (fun _ => ?_) (fun _ => ?_)) | (refine gPG_dec (fun _ => ?_) (fun _ => ?_)) | (refine gI_var (fun _ => ?_) (fun _ => ?_)) | (refine gG_var (fun _ => ?_) (fun _ => ?_)) | (refine gPG_var (fun _ => ?_) (fun _ => ?_)))
          exact weak_flat rfl h0 rfl
        · have h2 : 15 < x := by omega
          repeat' (first | (simp (disch := first | omega | assumption | (refine @id ((_ : Bool) = _) ?_; exact id (by with_unfolding_all rfl)) | (exact Or.inl rfl) | (exact Or.inl trivial) | (exact okL_map _ (fun _ => rfl) _) | (simp only [VVlen] <;> omega) | fail) only [VV0, VV1, VV2, VV3, VV4, VV5, VV6, VV7, VV8, mkFnV, vargs, slotsL, opdsA, Nat.reduceEqDiff, Nat.reduceLT, Nat.reduceAdd, Nat.reduceBEq, Int.reduceAdd, Int.reduceSub, Int.reduceLT, Int.reduceLE, Int.reduceEq, Int.reduceNeg, ↓reduceIte, reduceCtorEq, scL, scD, expand, List.replicate, c15l0, iD_dv, hx]) | (refine gC_drawW ?_) | (refine gI_dec (fun _ => ?_) (fun _ => ?_)) | (refine gG_dec (fun _ => ?_) (fun _ => ?_)) | (refine gPG_dec (fun _ => ?_) (fun _ => ?_)) | (refine gI_var (fun _ => ?_) (fun _ => ?_)) | (refine gG_var (fun _ => ?_) (fun _ => ?_)) | (refine gPG_var (fun _ => ?_) (fun _ => ?_)))
          exact weak_flat rfl h0 rfl
      · have hc' : 0 ≤ l[k]! ∧ l[k]! ≤ 15 := by simpa [col] using hc
        have hn : ∀ j, j < k + 1 → col l[j]! = true := (fun j hj => by rcases Nat.lt_succ_iff_lt_or_eq.1 hj with h | h; exact ha j h; subst h; exact hc)
        generalize hx : l[k]! = x at hc'
        have h1 : ¬ x < 0 := by omega
        have h2 : ¬ 15 < x := by omega
        repeat' (first | (simp (disch := first | omega | assumption | (refine @id ((_ : Bool) = _) ?_; exact id (by with_unfolding_all rfl)) | (exact Or.inl rfl) | (exact Or.inl trivial) | (exact okL_map _ (fun _ => rfl) _) | (simp only [VVlen] <;> omega) | fail) only [VV0, VV1, VV2, VV3, VV4, VV5, VV6, VV7, VV8, mkFnV, vargs, slotsL, opdsA, Nat.reduceEqDiff, Nat.reduceLT, Nat.reduceAdd, Nat.reduceBEq, Int.reduceAdd, Int.reduceSub, Int.reduceLT, Int.reduceLE, Int.reduceEq, Int.reduceNeg, ↓reduceIte, reduceCtorEq, scL, scD, expand, List.replicate, c15l0, iD_dv, hx]) | (refine gC_drawW ?_) | (refine gI_dec (fun _ => ?_) (fun _ => ?_)) | (refine gG_dec (fun _ => ?_) (fun _ => ?_)) | (refine gPG_dec (fun _ => ?_) (fun _ => ?_)) | (refine gI_var (fun _ => ?_) (fun _ => ?_)) | (refine gG_var (fun _ => ?_) (fun _ => ?_)) | (refine gPG_var (fun _ => ?_) (fun _ => ?_)))
        exact ⟨_, _, _, by omega, .refl _ _, k + 1, rfl, hlt, hn, rfl, rfl⟩
    · have : k = l.length := by omega
      subst this
      rw [if_pos (fb_end ha).2]
      repeat' (first | (simp (disch := first | omega | assumption | (refine @id ((_ : Bool) = _) ?_; exact id (by with_unfolding_all rfl)) | (exact Or.inl rfl) | (exact Or.inl trivial) | (exact okL_map _ (fun _ => rfl) _) | (simp only [VVlen] <;> omega) | fail) only [VV0, VV1, VV2, VV3, VV4, VV5, VV6, VV7, VV8, mkFnV, vargs, slotsL, opdsA, Nat.reduceEqDiff, Nat.reduceLT, Nat.reduceAdd, Nat.reduceBEq, Int.reduceAdd, Int.reduceSub, Int.reduceLT, Int.reduceLE, Int.reduceEq, Int.reduceNeg, ↓reduceIte, reduceCtorEq, scL, scD, expand, List.replicate, c15l0, iD_dv]) | (refine gC_drawW ?_) | (refine gI_dec (fun _ => ?_) (fun _ => ?_)) | (refine gG_dec (fun _ => ?_) (fun _ => ?_)) | (refine gPG_dec (fun _ => ?_) (fun _ => ?_)) | (refine gI_var (fun _ => ?_) (fun _ => ?_)) | (refine gG_var (fun _ => ?_) (fun _ => ?_)) | (refine gPG_var (fun _ => ?_) (fun _ => ?_)))
      exact weak_flat rfl h0 rfl
end
end Go.Proofs.YtgglaaldlegckaaDoor
namespace Go.Proofs.YtgglaaldlegckaaDoor
open Go Go.Itp
set_option maxRecDepth 100000
set_option maxHeartbeats 1000000
set_option linter.unusedSimpArgs false
def sw (l : List Int) (k : Nat) : List Int := (List.range l.length).map fun x => if x < k ∨ l.length - k ≤ x then l[l.length - 1 - x]! else l[x]!
theorem sw_len (l : List Int) (k : Nat) : (sw l k).length = l.length := by simp [sw]
theorem sw_get (l : List Int) (k x : Nat) (h : x < l.length) : (sw l k)[x]! = if x < k ∨ l.length - k ≤ x then l[l.length - 1 - x]! else l[x]! := by
  rw [getElem!_pos _ _ (by rw [sw_len]; exact h)]
  simp [sw]
theorem sw_zero (l : List Int) : sw l 0 = l := by
  refine List.ext_getElem (sw_len l 0) fun i h1 h2 => ?_
  have := sw_get l 0 i h2
  rw [getElem!_pos (sw l 0) i h1] at this
  rw [this, if_neg (by omega), getElem!_pos l i h2]
theorem sw_step (l : List Int) (k j : Nat) (h : k < j) (hj : (l.length : Int) - 1 - k = j) : ((sw l k).set k (sw l k)[j]!).set j (sw l k)[k]! = sw l (k + 1) := by
  refine List.ext_getElem (by simp [sw_len]) fun i h1 h2 => ?_
  rw [sw_len] at h2
  have e := sw_get l (k + 1) i h2
  rw [getElem!_pos _ _ (by rw [sw_len]; exact h2)] at e
  have e1 := sw_get l k i h2
  rw [getElem!_pos _ _ (by rw [sw_len]; exact h2)] at e1
  have ej : (sw l k)[j]! = l[j]! := by rw [sw_get l k j (by omega), if_neg (by omega)]
  have ek : (sw l k)[k]! = l[k]! := by rw [sw_get l k k (by omega), if_neg (by omega)]
  rw [e, List.getElem_set, List.getElem_set, e1, ej, ek]
  by_cases h3 : j = i
  · subst h3
    rw [if_pos rfl, if_pos (by omega), show l.length - 1 - j = k by omega]
  rw [if_neg h3]
  by_cases h4 : k = i
  · subst h4
    rw [if_pos rfl, if_pos (by omega), show l.length - 1 - k = j by omega]
  rw [if_neg h4]
  by_cases h5 : i < k ∨ l.length - k ≤ i
  · rw [if_pos h5, if_pos (by omega)]
  · rw [if_neg h5, if_neg (by omega)]
theorem sw_end (l : List Int) (k : Nat) (h : ¬ (k : Int) < (l.length : Int) - 1 - k) : sw l k = l.reverse := by
  refine List.ext_getElem (by simp [sw_len]) fun i h1 h2 => ?_
  rw [sw_len] at h1
  have e := sw_get l k i h1
  rw [getElem!_pos _ _ (by rw [sw_len]; exact h1)] at e
  rw [e, List.getElem_reverse]
  by_cases h3 : i < k ∨ l.length - k ≤ i
  · rw [if_pos h3, getElem!_pos l (l.length - 1 - i) (by omega)]
  · rw [if_neg h3, getElem!_pos l i h1]
    congr 1
    omega
def windP (l : List Int) (t : Bool) : Nat → List Int
  | 0 => []
  | k + 1 => windP l t k ++ (if t = true ∧ k % 2 = 1 then l.reverse else l)
theorem windP_len (l : List Int) (t : Bool) : ∀ k, (windP l t k).length = k * l.length
  | 0 => by simp [windP]
  | k + 1 => by
    simp only [windP, List.length_append, windP_len l t k, Nat.add_mul, Nat.one_mul]
    split <;> simp
section
variable (w : World) (n : Nat)
theorem clone_p (s : Nat) (l : List Int) (hl : l.length ≤ 100000000000) (h0 : 0 < l.length) : VSpec (EN w (n + 1)) 45 [.sl s l.length (l.map iD)] (.gr 2 0 l.length) ⟨[(0, .gro 3 1 false (l.map iD))], 1, 0⟩ := by
  refine vspec_g rfl rfl (fun _ _ => rfl) (Nat.le_of_ble_eq_true rfl) (oldVals w) (retOK_gr (map_nil_iff rfl)) rfl fun C hC hn => ?_
  have hlm : (l.map iD).length = l.length * 1 := by simp
  have hne : l.length ≠ 0 := by omega
  have hnl : isNilV' 1 (.sl s l.length (l.map iD)) = some false := by
    have h3 : Nat.beq l.length 0 = false := nbf.2 hne
    simp only [isNilV', h3]
    cases Nat.beq s 0 <;> cases Nat.beq s 2 <;> rfl
  repeat' (first | (simp (disch := first | omega | assumption | (refine @id ((_ : Bool) = _) ?_; exact id (by with_unfolding_all rfl)) | (exact Or.inl rfl) | (exact Or.inl trivial) | (exact okL_map _ (fun _ => rfl) _) | (simp only [VVlen] <;> omega) | fail) only [VV0, VV1, VV2, VV3, VV4, VV5, VV6, VV7, VV8, mkFnV, vargs, slotsL, opdsA, Nat.reduceEqDiff, Nat.reduceLT, Nat.reduceAdd, Nat.reduceBEq, Int.reduceAdd, Int.reduceSub, Int.reduceLT, Int.reduceLE, Int.reduceEq, Int.reduceNeg, ↓reduceIte, reduceCtorEq, scL, scD, expand, List.replicate, c45, eqNilV_nil, hnl]) | (refine gC_drawW ?_) | (refine gI_dec (fun _ => ?_) (fun _ => ?_)) | (refine gG_dec (fun _ => ?_) (fun _ => ?_)) | (refine gPG_dec (fun _ => ?_) (fun _ => ?_)) | (refine gI_var (fun _ => ?_) (fun _ => ?_)) | (refine gG_var (fun _ => ?_) (fun _ => ?_)) | (refine gPG_var (fun _ => ?_) (fun _ => ?_)))
  exact weak_to [(1, 0)] 1 hn rfl rfl rfl rfl
theorem reverse_w {C : Ctx} {st : VSt} {Q : V → VSt → Prop} (hC : C.E = EN w (n + 1)) (o t s : Nat) (l : List Int) (hl : l.length ≤ 100000000000) (ho : aget st.own o = some (.gro t 1 false (l.map iD))) (hro : st.ro ≤ o)
    (hq : Q (.tup []) ⟨aset st.own o (.gro t 1 false (l.reverse.map iD)), st.next, st.ro⟩) : CallV C 115 [.gr s o l.length] st Q := by
  refine callV_w hC rfl rfl (fun _ _ => rfl) (Nat.le_of_ble_eq_true rfl) hq fun C' hC' hn => ?_
  obtain ⟨H, nx, ro⟩ := st
  simp only at ho hro hn
  have hs : (aget H o).isSome = true := by rw [ho]; rfl
  simp (disch := first | omega | assumption | (refine @id ((_ : Bool) = _) ?_; exact id (by with_unfolding_all rfl)) | (exact Or.inl rfl) | (exact Or.inl trivial) | (exact okL_map _ (fun _ => rfl) _) | (simp only [VVlen] <;> omega) | fail) only [VV0, VV1, VV2, VV3, VV4, VV5, VV6, VV7, VV8, mkFnV, vargs, slotsL, opdsA, Nat.reduceEqDiff, Nat.reduceLT, Nat.reduceAdd, Nat.reduceBEq, Int.reduceAdd, Int.reduceSub, Int.reduceLT, Int.reduceLE, Int.reduceEq, Int.reduceNeg, ↓reduceIte, reduceCtorEq, scL, scD, expand, List.replicate, c115]
  refine g_while (fun m fr st => ∃ (k : Nat) (z : Int), m = l.length - k ∧ z = (l.length : Int) - 1 - k ∧ k ≤ l.length ∧ fr = [(0, .gr s o l.length), (2, .sc (.int .i64 k)), (3, .sc (.int .i64 z))] ∧ st = ⟨aset H o (.gro t 1 false ((sw l k).map iD)), nx, ro⟩) l.length ?_ ⟨_, _, .refl _ _, 0, (l.length : Int) - 1, ?_⟩ ?_
  · rw [hC', callP_rounds]; unfold many; omega
  · exact ⟨by omega, by omega, by omega, rfl, by rw [sw_zero, aset_self _ _ _ ho]⟩
  · rintro m fr st ⟨k, z, rfl, hz, hk, rfl, rfl⟩
    have hlm : ((sw l k).map iD).length = l.length := by simp [sw_len]
    by_cases hlt : (k : Int) < z
    · obtain ⟨j, rfl⟩ : ∃ j : Nat, z = j := ⟨z.toNat, by omega⟩
      have hsl := sw_len l k
      have hst := sw_step l k j (by omega) hz.symm
      repeat' (first | (simp (disch := first | omega | assumption | (refine @id ((_ : Bool) = _) ?_; exact id (by with_unfolding_all rfl)) | (exact Or.inl rfl) | (exact Or.inl trivial) | (exact okL_map _ (fun _ => rfl) _) | (simp only [VVlen] <;> omega) | fail) only [VV0, VV1, VV2, VV3, VV4, VV5, VV6, VV7, VV8, mkFnV, vargs, slotsL, opdsA, Nat.reduceEqDiff, Nat.reduceLT, Nat.reduceAdd, Nat.reduceBEq, Int.reduceAdd, Int.reduceSub, Int.reduceLT, Int.reduceLE, Int.reduceEq, Int.reduceNeg, ↓reduceIte, reduceCtorEq, scL, scD, expand, List.replicate, c115l0, iD_dv]) | (refine gC_drawW ?_) | (refine gI_dec (fun _ => ?_) (fun _ => ?_)) | (refine gG_dec (fun _ => ?_) (fun _ => ?_)) | (refine gPG_dec (fun _ => ?_) (fun _ => ?_)) | (refine gI_var (fun _ => ?_) (fun _ => ?_)) | (refine gG_var (fun _ => ?_) (fun _ => ?_)) | (refine gPG_var (fun _ => ?_) (fun _ => ?_)))
      refine ⟨_, _, _, by omega, .refl _ _, k + 1, (j : Int) - 1, rfl, by omega, by omega, rfl, ?_⟩
      rw [← hst, List.map_set, List.map_set]
      rfl
    · rw [sw_end l k (by omega)]
      repeat' (first | (simp (disch := first | omega | assumption | (refine @id ((_ : Bool) = _) ?_; exact id (by with_unfolding_all rfl)) | (exact Or.inl rfl) | (exact Or.inl trivial) | (exact okL_map _ (fun _ => rfl) _) | (simp only [VVlen] <;> omega) | fail) only [VV0, VV1, VV2, VV3, VV4, VV5, VV6, VV7, VV8, mkFnV, vargs, slotsL, opdsA, Nat.reduceEqDiff, Nat.reduceLT, Nat.reduceAdd, Nat.reduceBEq, Int.reduceAdd, Int.reduceSub, Int.reduceLT, Int.reduceLE, Int.reduceEq, Int.reduceNeg, ↓reduceIte, reduceCtorEq, scL, scD, expand, List.replicate, c115l0, iD_dv]) | (refine gC_drawW ?_) | (refine gI_dec (fun _ => ?_) (fun _ => ?_)) | (refine gG_dec (fun _ => ?_) (fun _ => ?_)) | (refine gPG_dec (fun _ => ?_) (fun _ => ?_)) | (refine gI_var (fun _ => ?_) (fun _ => ?_)) | (refine gG_var (fun _ => ?_) (fun _ => ?_)) | (refine gPG_var (fun _ => ?_) (fun _ => ?_)))
      exact .refl _ _
theorem straight_p (s m : Nat) (i : Int) (c : List D) (hs : s ≠ 1 ∨ m ≠ 0) : VSpec (EN w (n + 1)) 116 [.agg [], .sl s m c, .sc (.int .i64 i)] (.sl s m c) ⟨[], 0, 0⟩ := by
  refine vspec_g rfl rfl (fun _ _ => rfl) (Nat.le_of_ble_eq_true rfl) (oldVals w) (retOK_nil ?_) rfl fun C hC hn => ?_
  · simp only [Cl, okD, Bool.or_eq_true, Bool.not_eq_true', nbf]; exact hs
  repeat' (first | (simp (disch := first | omega | assumption | (refine @id ((_ : Bool) = _) ?_; exact id (by with_unfolding_all rfl)) | (exact Or.inl rfl) | (exact Or.inl trivial) | (exact okL_map _ (fun _ => rfl) _) | (simp only [VVlen] <;> omega) | fail) only [VV0, VV1, VV2, VV3, VV4, VV5, VV6, VV7, VV8, mkFnV, vargs, slotsL, opdsA, Nat.reduceEqDiff, Nat.reduceLT, Nat.reduceAdd, Nat.reduceBEq, Int.reduceAdd, Int.reduceSub, Int.reduceLT, Int.reduceLE, Int.reduceEq, Int.reduceNeg, ↓reduceIte, reduceCtorEq, scL, scD, expand, List.replicate, c116]) | (refine gC_drawW ?_) | (refine gI_dec (fun _ => ?_) (fun _ => ?_)) | (refine gG_dec (fun _ => ?_) (fun _ => ?_)) | (refine gPG_dec (fun _ => ?_) (fun _ => ?_)) | (refine gI_var (fun _ => ?_) (fun _ => ?_)) | (refine gG_var (fun _ => ?_) (fun _ => ?_)) | (refine gPG_var (fun _ => ?_) (fun _ => ?_)))
  exact weak_to [] 0 hn rfl rfl rfl rfl
theorem turnEven_p (s m : Nat) (i : Nat) (hi : i ≤ 4000) (h2 : i % 2 = 0) (c : List D) (hs : s ≠ 1 ∨ m ≠ 0) : VSpec (EN w (n + 2)) 114 [.agg [], .sl s m c, .sc (.int .i64 i)] (.sl s m c) ⟨[], 0, 0⟩ := by
  refine vspec_g rfl rfl (fun _ _ => rfl) (Nat.le_of_ble_eq_true rfl) (oldVals w) (retOK_nil ?_) rfl fun C hC hn => ?_
  · simp only [Cl, okD, Bool.or_eq_true, Bool.not_eq_true', nbf]; exact hs
  have e : (i : Int) % 2 = 0 := by omega
  repeat' (first | (simp (disch := first | omega | assumption | (refine @id ((_ : Bool) = _) ?_; exact id (by with_unfolding_all rfl)) | (exact Or.inl rfl) | (exact Or.inl trivial) | (exact okL_map _ (fun _ => rfl) _) | (simp only [VVlen] <;> omega) | fail) only [VV0, VV1, VV2, VV3, VV4, VV5, VV6, VV7, VV8, mkFnV, vargs, slotsL, opdsA, Nat.reduceEqDiff, Nat.reduceLT, Nat.reduceAdd, Nat.reduceBEq, Int.reduceAdd, Int.reduceSub, Int.reduceLT, Int.reduceLE, Int.reduceEq, Int.reduceNeg, ↓reduceIte, reduceCtorEq, scL, scD, expand, List.replicate, c114]) | (refine gC_drawW ?_) | (refine gI_dec (fun _ => ?_) (fun _ => ?_)) | (refine gG_dec (fun _ => ?_) (fun _ => ?_)) | (refine gPG_dec (fun _ => ?_) (fun _ => ?_)) | (refine gI_var (fun _ => ?_) (fun _ => ?_)) | (refine gG_var (fun _ => ?_) (fun _ => ?_)) | (refine gPG_var (fun _ => ?_) (fun _ => ?_)))
  exact weak_to [] 0 hn rfl rfl rfl rfl
theorem turnOdd_p (s : Nat) (i : Nat) (hi : i ≤ 4000) (h2 : i % 2 = 1) (l : List Int) (hl : l.length ≤ 100000000000) (h0 : 0 < l.length) : VSpec (EN w (n + 2)) 114 [.agg [], .sl s l.length (l.map iD), .sc (.int .i64 i)] (.gr 2 0 l.length) ⟨[(0, .gro 3 1 false (l.reverse.map iD))], 1, 0⟩ := by
  refine vspec_g rfl rfl (fun _ _ => rfl) (Nat.le_of_ble_eq_true rfl) (oldVals w) (retOK_gr (map_nil_iff (by simp))) rfl fun C hC hn => ?_
  have e : (i : Int) % 2 = 1 := by omega
  repeat' (first | (simp (disch := first | omega | assumption | (refine @id ((_ : Bool) = _) ?_; exact id (by with_unfolding_all rfl)) | (exact Or.inl rfl) | (exact Or.inl trivial) | (exact okL_map _ (fun _ => rfl) _) | (simp only [VVlen] <;> omega) | fail) only [VV0, VV1, VV2, VV3, VV4, VV5, VV6, VV7, VV8, mkFnV, vargs, slotsL, opdsA, Nat.reduceEqDiff, Nat.reduceLT, Nat.reduceAdd, Nat.reduceBEq, Int.reduceAdd, Int.reduceSub, Int.reduceLT, Int.reduceLE, Int.reduceEq, Int.reduceNeg, ↓reduceIte, reduceCtorEq, scL, scD, expand, List.replicate, c114]) | (refine gC_drawW ?_) | (refine gI_dec (fun _ => ?_) (fun _ => ?_)) | (refine gG_dec (fun _ => ?_) (fun _ => ?_)) | (refine gPG_dec (fun _ => ?_) (fun _ => ?_)) | (refine gI_var (fun _ => ?_) (fun _ => ?_)) | (refine gG_var (fun _ => ?_) (fun _ => ?_)) | (refine gPG_var (fun _ => ?_) (fun _ => ?_)))
  refine callV_of (by rw [hC]; exact clone_p w n s l hl h0) rfl rfl rfl ?_
  repeat' (first | (simp (disch := first | omega | assumption | (refine @id ((_ : Bool) = _) ?_; exact id (by with_unfolding_all rfl)) | (exact Or.inl rfl) | (exact Or.inl trivial) | (exact okL_map _ (fun _ => rfl) _) | (simp only [VVlen] <;> omega) | fail) only [VV0, VV1, VV2, VV3, VV4, VV5, VV6, VV7, VV8, mkFnV, vargs, slotsL, opdsA, Nat.reduceEqDiff, Nat.reduceLT, Nat.reduceAdd, Nat.reduceBEq, Int.reduceAdd, Int.reduceSub, Int.reduceLT, Int.reduceLE, Int.reduceEq, Int.reduceNeg, ↓reduceIte, reduceCtorEq, scL, scD, expand, List.replicate, vsh, shH, shO, fzSL, fzS]) | (refine gC_drawW ?_) | (refine gI_dec (fun _ => ?_) (fun _ => ?_)) | (refine gG_dec (fun _ => ?_) (fun _ => ?_)) | (refine gPG_dec (fun _ => ?_) (fun _ => ?_)) | (refine gI_var (fun _ => ?_) (fun _ => ?_)) | (refine gG_var (fun _ => ?_) (fun _ => ?_)) | (refine gPG_var (fun _ => ?_) (fun _ => ?_)))
  refine reverse_w w n hC 1 3 2 l hl rfl (Nat.zero_le _) ?_
  repeat' (first | (simp (disch := first | omega | assumption | (refine @id ((_ : Bool) = _) ?_; exact id (by with_unfolding_all rfl)) | (exact Or.inl rfl) | (exact Or.inl trivial) | (exact okL_map _ (fun _ => rfl) _) | (simp only [VVlen] <;> omega) | fail) only [VV0, VV1, VV2, VV3, VV4, VV5, VV6, VV7, VV8, mkFnV, vargs, slotsL, opdsA, Nat.reduceEqDiff, Nat.reduceLT, Nat.reduceAdd, Nat.reduceBEq, Int.reduceAdd, Int.reduceSub, Int.reduceLT, Int.reduceLE, Int.reduceEq, Int.reduceNeg, ↓reduceIte, reduceCtorEq, scL, scD, expand, List.replicate]) | (refine gC_drawW ?_) | (refine gI_dec (fun _ => ?_) (fun _ => ?_)) | (refine gG_dec (fun _ => ?_) (fun _ => ?_)) | (refine gPG_dec (fun _ => ?_) (fun _ => ?_)) | (refine gI_var (fun _ => ?_) (fun _ => ?_)) | (refine gG_var (fun _ => ?_) (fun _ => ?_)) | (refine gPG_var (fun _ => ?_) (fun _ => ?_)))
  exact weak_to [(1, 0)] 1 hn rfl rfl rfl rfl
end
end Go.Proofs.YtgglaaldlegckaaDoor
namespace Go.Proofs.YtgglaaldlegckaaDoor
open Go Go.Itp
set_option maxRecDepth 100000
set_option maxHeartbeats 1000000
set_option linter.unusedSimpArgs false
abbrev wayV (t : Bool) : V := .ifc (if t = true then 95 else 96) (.agg [])
section
variable (w : World) (n : Nat)
theorem of_p (t : Bool) : VSpec (EN w (n + 1)) 44 [.sc (.bool t)] (wayV t) ⟨[], 0, 0⟩ := by
  refine vspec_flat rfl rfl (fun _ _ => rfl) (Nat.le_of_ble_eq_true rfl) (oldVals w) rfl fun C hC h0 => ?_
  cases t
  all_goals
    repeat' (first | (simp (disch := first | omega | assumption | (refine @id ((_ : Bool) = _) ?_; exact id (by with_unfolding_all rfl)) | (exact Or.inl rfl) | (exact Or.inl trivial) | (exact okL_map _ (fun _ => rfl) _) | (simp only [VVlen] <;> omega) | fail) only [VV0, VV1, VV2, VV3, VV4, VV5, VV6, VV7, VV8, mkFnV, vargs, slotsL, opdsA, Nat.reduceEqDiff, Nat.reduceLT, Nat.reduceAdd, Nat.reduceBEq, Int.reduceAdd, Int.reduceSub, Int.reduceLT, Int.reduceLE, Int.reduceEq, Int.reduceNeg, ↓reduceIte, reduceCtorEq, scL, scD, expand, List.replicate, c44, wayV, mkIfV]) | (refine gC_drawW ?_) | (refine gI_dec (fun _ => ?_) (fun _ => ?_)) | (refine gG_dec (fun _ => ?_) (fun _ => ?_)) | (refine gPG_dec (fun _ => ?_) (fun _ => ?_)) | (refine gI_var (fun _ => ?_) (fun _ => ?_)) | (refine gG_var (fun _ => ?_) (fun _ => ?_)) | (refine gPG_var (fun _ => ?_) (fun _ => ?_)))
    exact weak_flat rfl h0 rfl
theorem wind_g (t : Bool) (s : Nat) (l : List Int) (p : Nat) (h0 : 0 < l.length) (hl : l.length ≤ 5000) (hp : p ≤ 4000) {C : Ctx} (hC : C.E = EN w (n + 2)) (hn : C.w0.nx = 0) :
    gC C c43.code [] (vargs 0 [wayV t, .sl s l.length (l.map iD), .sc (.int .i64 p)]) ⟨[], 0, 0⟩ (RetV C c43.res (.gr 2 0 (windP l t p).length) ⟨[(0, .gro 3 1 false ((windP l t p).map iD))], 1, 0⟩) := by
  simp (disch := first | omega | assumption | (refine @id ((_ : Bool) = _) ?_; exact id (by with_unfolding_all rfl)) | (exact Or.inl rfl) | (exact Or.inl trivial) | (exact okL_map _ (fun _ => rfl) _) | (simp only [VVlen] <;> omega) | fail) only [VV0, VV1, VV2, VV3, VV4, VV5, VV6, VV7, VV8, mkFnV, vargs, slotsL, opdsA, Nat.reduceEqDiff, Nat.reduceLT, Nat.reduceAdd, Nat.reduceBEq, Int.reduceAdd, Int.reduceSub, Int.reduceLT, Int.reduceLE, Int.reduceEq, Int.reduceNeg, ↓reduceIte, reduceCtorEq, scL, scD, expand, List.replicate, c43]
  refine g_while (fun m fr st => ∃ k : Nat, m = p - k ∧ k ≤ p ∧ fr = [(0, wayV t), (1, .sl s l.length (l.map iD)), (7, .gr 2 0 (windP l t k).length), (9, .sc (.int .i64 p)), (10, .sc (.int .i64 k))] ∧ st = ⟨[(0, .gro 3 1 false ((windP l t k).map iD))], 1, 0⟩) p ?_ ⟨_, _, weak_nilSlot 7 3 1 rfl, 0, ?_⟩ ?_
  · rw [hC, callP_rounds]; unfold many; omega
  · exact ⟨by omega, by omega, rfl, rfl⟩
  · rintro m fr st ⟨k, rfl, hk, rfl, rfl⟩
    by_cases hlt : k < p
    · have hwl := windP_len l t k
      have hwb : (windP l t k).length ≤ 20000000 := by rw [hwl]; exact Nat.le_trans (Nat.mul_le_mul (show k ≤ 4000 by omega) hl) (by omega)
      have hlk : ((windP l t k).map iD).length = (windP l t k).length * 1 := by simp
      have hll : (l.map iD).length = l.length * 1 := by simp
      have hlr : (l.reverse.map iD).length = l.length * 1 := by simp
      have hne : l.length ≠ 0 := by omega
      cases t
      · repeat' (first | (simp (disch := first | omega | assumption | (refine @id ((_ : Bool) = _) ?_; exact id (by with_unfolding_all rfl)) | (exact Or.inl rfl) | (exact Or.inl trivial) | (exact okL_map _ (fun _ => rfl) _) | (simp only [VVlen] <;> omega) | fail) only [VV0, VV1, VV2, VV3, VV4, VV5, VV6, VV7, VV8, mkFnV, vargs, slotsL, opdsA, Nat.reduceEqDiff, Nat.reduceLT, Nat.reduceAdd, Nat.reduceBEq, Int.reduceAdd, Int.reduceSub, Int.reduceLT, Int.reduceLE, Int.reduceEq, Int.reduceNeg, ↓reduceIte, reduceCtorEq, scL, scD, expand, List.replicate, c43l0, wayV]) | (refine gC_drawW ?_) | (refine gI_dec (fun _ => ?_) (fun _ => ?_)) | (refine gG_dec (fun _ => ?_) (fun _ => ?_)) | (refine gPG_dec (fun _ => ?_) (fun _ => ?_)) | (refine gI_var (fun _ => ?_) (fun _ => ?_)) | (refine gG_var (fun _ => ?_) (fun _ => ?_)) | (refine gPG_var (fun _ => ?_) (fun _ => ?_)))
        refine callV_of (by rw [hC]; exact straight_p w (n + 1) s l.length k (l.map iD) (.inr hne)) rfl rfl rfl ?_
        repeat' (first | (simp (disch := first | omega | assumption | (refine @id ((_ : Bool) = _) ?_; exact id (by with_unfolding_all rfl)) | (exact Or.inl rfl) | (exact Or.inl trivial) | (exact okL_map _ (fun _ => rfl) _) | (simp only [VVlen] <;> omega) | fail) only [VV0, VV1, VV2, VV3, VV4, VV5, VV6, VV7, VV8, mkFnV, vargs, slotsL, opdsA, Nat.reduceEqDiff, Nat.reduceLT, Nat.reduceAdd, Nat.reduceBEq, Int.reduceAdd, Int.reduceSub, Int.reduceLT, Int.reduceLE, Int.reduceEq, Int.reduceNeg, ↓reduceIte, reduceCtorEq, scL, scD, expand, List.replicate, vsh, shH, fzSL, fzS]) | (refine gC_drawW ?_) | (refine gI_dec (fun _ => ?_) (fun _ => ?_)) | (refine gG_dec (fun _ => ?_) (fun _ => ?_)) | (refine gPG_dec (fun _ => ?_) (fun _ => ?_)) | (refine gI_var (fun _ => ?_) (fun _ => ?_)) | (refine gG_var (fun _ => ?_) (fun _ => ?_)) | (refine gPG_var (fun _ => ?_) (fun _ => ?_)))
        refine ⟨_, _, _, by omega, weak_to [(1, 0)] 1 hn rfl rfl rfl rfl, k + 1, rfl, hlt, ?_, ?_⟩
        · simp [windP, renF, vren, vrenL, aget_cons]
        · simp [windP, renH, aget_cons, renO]
      · rcases Nat.mod_two_eq_zero_or_one k with hpar | hpar
        · repeat' (first | (simp (disch := first | omega | assumption | (refine @id ((_ : Bool) = _) ?_; exact id (by with_unfolding_all rfl)) | (exact Or.inl rfl) | (exact Or.inl trivial) | (exact okL_map _ (fun _ => rfl) _) | (simp only [VVlen] <;> omega) | fail) only [VV0, VV1, VV2, VV3, VV4, VV5, VV6, VV7, VV8, mkFnV, vargs, slotsL, opdsA, Nat.reduceEqDiff, Nat.reduceLT, Nat.reduceAdd, Nat.reduceBEq, Int.reduceAdd, Int.reduceSub, Int.reduceLT, Int.reduceLE, Int.reduceEq, Int.reduceNeg, ↓reduceIte, reduceCtorEq, scL, scD, expand, List.replicate, c43l0, wayV]) | (refine gC_drawW ?_) | (refine gI_dec (fun _ => ?_) (fun _ => ?_)) | (refine gG_dec (fun _ => ?_) (fun _ => ?_)) | (refine gPG_dec (fun _ => ?_) (fun _ => ?_)) | (refine gI_var (fun _ => ?_) (fun _ => ?_)) | (refine gG_var (fun _ => ?_) (fun _ => ?_)) | (refine gPG_var (fun _ => ?_) (fun _ => ?_)))
          refine callV_of (by rw [hC]; exact turnEven_p w n s l.length k (by omega) hpar (l.map iD) (.inr hne)) rfl rfl rfl ?_
          repeat' (first | (simp (disch := first | omega | assumption | (refine @id ((_ : Bool) = _) ?_; exact id (by with_unfolding_all rfl)) | (exact Or.inl rfl) | (exact Or.inl trivial) | (exact okL_map _ (fun _ => rfl) _) | (simp only [VVlen] <;> omega) | fail) only [VV0, VV1, VV2, VV3, VV4, VV5, VV6, VV7, VV8, mkFnV, vargs, slotsL, opdsA, Nat.reduceEqDiff, Nat.reduceLT, Nat.reduceAdd, Nat.reduceBEq, Int.reduceAdd, Int.reduceSub, Int.reduceLT, Int.reduceLE, Int.reduceEq, Int.reduceNeg, ↓reduceIte, reduceCtorEq, scL, scD, expand, List.replicate, vsh, shH, fzSL, fzS]) | (refine gC_drawW ?_) | (refine gI_dec (fun _ => ?_) (fun _ => ?_)) | (refine gG_dec (fun _ => ?_) (fun _ => ?_)) | (refine gPG_dec (fun _ => ?_) (fun _ => ?_)) | (refine gI_var (fun _ => ?_) (fun _ => ?_)) | (refine gG_var (fun _ => ?_) (fun _ => ?_)) | (refine gPG_var (fun _ => ?_) (fun _ => ?_)))
          refine ⟨_, _, _, by omega, weak_to [(1, 0)] 1 hn rfl rfl rfl rfl, k + 1, rfl, hlt, ?_, ?_⟩
          · simp [windP, renF, vren, vrenL, aget_cons, hpar]
          · simp [windP, renH, aget_cons, renO, hpar]
        · repeat' (first | (simp (disch := first | omega | assumption | (refine @id ((_ : Bool) = _) ?_; exact id (by with_unfolding_all rfl)) | (exact Or.inl rfl) | (exact Or.inl trivial) | (exact okL_map _ (fun _ => rfl) _) | (simp only [VVlen] <;> omega) | fail) only [VV0, VV1, VV2, VV3, VV4, VV5, VV6, VV7, VV8, mkFnV, vargs, slotsL, opdsA, Nat.reduceEqDiff, Nat.reduceLT, Nat.reduceAdd, Nat.reduceBEq, Int.reduceAdd, Int.reduceSub, Int.reduceLT, Int.reduceLE, Int.reduceEq, Int.reduceNeg, ↓reduceIte, reduceCtorEq, scL, scD, expand, List.replicate, c43l0, wayV]) | (refine gC_drawW ?_) | (refine gI_dec (fun _ => ?_) (fun _ => ?_)) | (refine gG_dec (fun _ => ?_) (fun _ => ?_)) | (refine gPG_dec (fun _ => ?_) (fun _ => ?_)) | (refine gI_var (fun _ => ?_) (fun _ => ?_)) | (refine gG_var (fun _ => ?_) (fun _ => ?_)) | (refine gPG_var (fun _ => ?_) (fun _ => ?_)))
          refine callV_of (by rw [hC]; exact turnOdd_p w n s k (by omega) hpar l (by omega) h0) rfl rfl rfl ?_
          repeat' (first | (simp (disch := first | omega | assumption | (refine @id ((_ : Bool) = _) ?_; exact id (by with_unfolding_all rfl)) | (exact Or.inl rfl) | (exact Or.inl trivial) | (exact okL_map _ (fun _ => rfl) _) | (simp only [VVlen] <;> omega) | fail) only [VV0, VV1, VV2, VV3, VV4, VV5, VV6, VV7, VV8, mkFnV, vargs, slotsL, opdsA, Nat.reduceEqDiff, Nat.reduceLT, Nat.reduceAdd, Nat.reduceBEq, Int.reduceAdd, Int.reduceSub, Int.reduceLT, Int.reduceLE, Int.reduceEq, Int.reduceNeg, ↓reduceIte, reduceCtorEq, scL, scD, expand, List.replicate, vsh, shH, shO, fzSL, fzS]) | (refine gC_drawW ?_) | (refine gI_dec (fun _ => ?_) (fun _ => ?_)) | (refine gG_dec (fun _ => ?_) (fun _ => ?_)) | (refine gPG_dec (fun _ => ?_) (fun _ => ?_)) | (refine gI_var (fun _ => ?_) (fun _ => ?_)) | (refine gG_var (fun _ => ?_) (fun _ => ?_)) | (refine gPG_var (fun _ => ?_) (fun _ => ?_)))
          refine ⟨_, _, _, by omega, weak_to [(2, 0)] 1 hn rfl rfl rfl rfl, k + 1, rfl, hlt, ?_, ?_⟩
          · simp [windP, renF, vren, vrenL, aget_cons, hpar]
          · simp [windP, renH, aget_cons, renO, hpar]
    · have : k = p := by omega
      subst this
      repeat' (first | (simp (disch := first | omega | assumption | (refine @id ((_ : Bool) = _) ?_; exact id (by with_unfolding_all rfl)) | (exact Or.inl rfl) | (exact Or.inl trivial) | (exact okL_map _ (fun _ => rfl) _) | (simp only [VVlen] <;> omega) | fail) only [VV0, VV1, VV2, VV3, VV4, VV5, VV6, VV7, VV8, mkFnV, vargs, slotsL, opdsA, Nat.reduceEqDiff, Nat.reduceLT, Nat.reduceAdd, Nat.reduceBEq, Int.reduceAdd, Int.reduceSub, Int.reduceLT, Int.reduceLE, Int.reduceEq, Int.reduceNeg, ↓reduceIte, reduceCtorEq, scL, scD, expand, List.replicate, c43l0]) | (refine gC_drawW ?_) | (refine gI_dec (fun _ => ?_) (fun _ => ?_)) | (refine gG_dec (fun _ => ?_) (fun _ => ?_)) | (refine gPG_dec (fun _ => ?_) (fun _ => ?_)) | (refine gI_var (fun _ => ?_) (fun _ => ?_)) | (refine gG_var (fun _ => ?_) (fun _ => ?_)) | (refine gPG_var (fun _ => ?_) (fun _ => ?_)))
      exact .refl _ _
theorem wind_p (t : Bool) (s : Nat) (l : List Int) (p : Nat) (h0 : 0 < l.length) (hl : l.length ≤ 5000) (hp : p ≤ 4000) :
    VSpec (EN w (n + 3)) 43 [wayV t, .sl s l.length (l.map iD), .sc (.int .i64 p)] (.gr 2 0 (windP l t p).length) ⟨[(0, .gro 3 1 false ((windP l t p).map iD))], 1, 0⟩ :=
  vspec_g rfl rfl (fun _ _ => rfl) (Nat.le_of_ble_eq_true rfl) (oldVals w) (retOK_gr (map_nil_iff rfl)) rfl fun C hC hn => wind_g w n t s l p h0 hl hp hC hn
end
end Go.Proofs.YtgglaaldlegckaaDoor
namespace Go.Proofs.YtgglaaldlegckaaDoor
open Go Go.Itp
set_option maxRecDepth 100000
set_option maxHeartbeats 1000000
set_option linter.unusedSimpArgs false
def cone (i n : Nat) (t : Bool) : Nat := if t = true ∧ i / n % 2 = 1 then n - 1 - i % n else i % n
theorem cone_lt {i n : Nat} (t : Bool) (h : 0 < n) : cone i n t < n := by
  unfold cone
  have := Nat.mod_lt i h
  split <;> omega
def windR (l : List Int) (t : Bool) (N : Nat) : List Int := (List.range N).map fun i => l[cone i l.length t]!
theorem windR_len (l : List Int) (t : Bool) (N : Nat) : (windR l t N).length = N := by simp [windR]
theorem windR_get (l : List Int) (t : Bool) (N i : Nat) (h : i < N) : (windR l t N)[i]! = l[cone i l.length t]! := by
  rw [getElem!_pos _ _ (by rw [windR_len]; exact h)]
  simp [windR]
theorem wind_eq (l : List Int) (t : Bool) (h : 0 < l.length) : ∀ p, windP l t p = windR l t (p * l.length)
  | 0 => by simp [windP, windR]
  | p + 1 => by
    have key : windR l t ((p + 1) * l.length) = windR l t (p * l.length) ++ (List.range l.length).map fun j => l[cone (p * l.length + j) l.length t]! := by
      unfold windR
      rw [Nat.add_mul, Nat.one_mul, List.range_add, List.map_append, List.map_map]
      rfl
    rw [key, windP, wind_eq l t h p]
    congr 1
    refine List.ext_getElem (by split <;> simp) fun i h1 h2 => ?_
    have hi : i < l.length := by simpa using h2
    have e1 : (p * l.length + i) / l.length = p := by
      rw [Nat.mul_comm, Nat.mul_add_div h, Nat.div_eq_of_lt hi, Nat.add_zero]
    have e2 : (p * l.length + i) % l.length = i := by
      rw [Nat.mul_comm, Nat.mul_add_mod, Nat.mod_eq_of_lt hi]
    simp only [List.getElem_map, List.getElem_range, cone, e1, e2]
    by_cases hc : t = true ∧ p % 2 = 1
    · simp only [if_pos hc]
      rw [List.getElem_reverse, getElem!_pos l (l.length - 1 - i) (by omega)]
    · simp only [if_neg hc]
      rw [getElem!_pos l i hi]
abbrev resV (r : List Int × Int) : V := .tup [.gr 2 0 r.1.length, .sc (.int .i64 r.2)]
abbrev resS (r : List Int × Int) : VSt := ⟨[(0, .gro 3 1 false (r.1.map iD))], 1, 0⟩
def windF (l : List Int) (p : Int) (t : Bool) : List Int × Int :=
  if l.length = 0 ∨ 64 < l.length then ([], 2) else if chk l ≠ 0 then ([], 8) else if p < 0 ∨ 4000 < p then ([], 2) else if 4000 < p * l.length then ([], 4) else (windR l t (p.toNat * l.length), 0)
section
variable (w : World) (n : Nat)
theorem cone_p (i k : Nat) (t : Bool) (hk : 0 < k) (hk2 : k ≤ 5000) (hi : i ≤ 5000) : VSpec (EN w (n + 1)) 27 [.sc (.int .i64 i), .sc (.int .i64 k), .sc (.bool t)] (.sc (.int .i64 (cone i k t))) ⟨[], 0, 0⟩ := by
  refine vspec_flat rfl rfl (fun _ _ => rfl) (Nat.le_of_ble_eq_true rfl) (oldVals w) rfl fun C hC h0 => ?_
  have e1 : (i : Int) / (k : Int) = ((i / k : Nat) : Int) := by simp
  have e2 : (i : Int) % (k : Int) = ((i % k : Nat) : Int) := by simp
  have hq : i / k ≤ i := Nat.div_le_self _ _
  have hr := Nat.mod_lt i hk
  have hc : cone i k t = if t = true ∧ i / k % 2 = 1 then k - 1 - i % k else i % k := rfl
  generalize i / k = q at e1 hq hc
  generalize i % k = r at e2 hr hc
  cases t
  · rw [if_neg (by simp)] at hc
    rw [hc]
    repeat' (first | (simp (disch := first | omega | assumption | (refine @id ((_ : Bool) = _) ?_; exact id (by with_unfolding_all rfl)) | (exact Or.inl rfl) | (exact Or.inl trivial) | (exact okL_map _ (fun _ => rfl) _) | (simp only [VVlen] <;> omega) | fail) only [VV0, VV1, VV2, VV3, VV4, VV5, VV6, VV7, VV8, mkFnV, vargs, slotsL, opdsA, Nat.reduceEqDiff, Nat.reduceLT, Nat.reduceAdd, Nat.reduceBEq, Int.reduceAdd, Int.reduceSub, Int.reduceLT, Int.reduceLE, Int.reduceEq, Int.reduceNeg, ↓reduceIte, reduceCtorEq, scL, scD, expand, List.replicate, c27, e1, e2]) | (refine gC_drawW ?_) | (refine gI_dec (fun _ => ?_) (fun _ => ?_)) | (refine gG_dec (fun _ => ?_) (fun _ => ?_)) | (refine gPG_dec (fun _ => ?_) (fun _ => ?_)) | (refine gI_var (fun _ => ?_) (fun _ => ?_)) | (refine gG_var (fun _ => ?_) (fun _ => ?_)) | (refine gPG_var (fun _ => ?_) (fun _ => ?_)))
    exact weak_flat rfl h0 rfl
  · rcases Nat.mod_two_eq_zero_or_one q with hp | hp
    · rw [if_neg (by omega)] at hc
      rw [hc]
      have hp' : (q : Int) % 2 = 0 := by omega
      repeat' (first | (simp (disch := first | omega | assumption | (refine @id ((_ : Bool) = _) ?_; exact id (by with_unfolding_all rfl)) | (exact Or.inl rfl) | (exact Or.inl trivial) | (exact okL_map _ (fun _ => rfl) _) | (simp only [VVlen] <;> omega) | fail) only [VV0, VV1, VV2, VV3, VV4, VV5, VV6, VV7, VV8, mkFnV, vargs, slotsL, opdsA, Nat.reduceEqDiff, Nat.reduceLT, Nat.reduceAdd, Nat.reduceBEq, Int.reduceAdd, Int.reduceSub, Int.reduceLT, Int.reduceLE, Int.reduceEq, Int.reduceNeg, ↓reduceIte, reduceCtorEq, scL, scD, expand, List.replicate, c27, e1, e2, hp']) | (refine gC_drawW ?_) | (refine gI_dec (fun _ => ?_) (fun _ => ?_)) | (refine gG_dec (fun _ => ?_) (fun _ => ?_)) | (refine gPG_dec (fun _ => ?_) (fun _ => ?_)) | (refine gI_var (fun _ => ?_) (fun _ => ?_)) | (refine gG_var (fun _ => ?_) (fun _ => ?_)) | (refine gPG_var (fun _ => ?_) (fun _ => ?_)))
      exact weak_flat rfl h0 rfl
    · rw [if_pos ⟨rfl, hp⟩] at hc
      have hp' : (q : Int) % 2 = 1 := by omega
      have hv : (k : Int) - 1 - r = ((cone i k true : Nat) : Int) := by rw [hc]; omega
      repeat' (first | (simp (disch := first | omega | assumption | (refine @id ((_ : Bool) = _) ?_; exact id (by with_unfolding_all rfl)) | (exact Or.inl rfl) | (exact Or.inl trivial) | (exact okL_map _ (fun _ => rfl) _) | (simp only [VVlen] <;> omega) | fail) only [VV0, VV1, VV2, VV3, VV4, VV5, VV6, VV7, VV8, mkFnV, vargs, slotsL, opdsA, Nat.reduceEqDiff, Nat.reduceLT, Nat.reduceAdd, Nat.reduceBEq, Int.reduceAdd, Int.reduceSub, Int.reduceLT, Int.reduceLE, Int.reduceEq, Int.reduceNeg, ↓reduceIte, reduceCtorEq, scL, scD, expand, List.replicate, c27, e1, e2, hp', hv]) | (refine gC_drawW ?_) | (refine gI_dec (fun _ => ?_) (fun _ => ?_)) | (refine gG_dec (fun _ => ?_) (fun _ => ?_)) | (refine gPG_dec (fun _ => ?_) (fun _ => ?_)) | (refine gI_var (fun _ => ?_) (fun _ => ?_)) | (refine gG_var (fun _ => ?_) (fun _ => ?_)) | (refine gPG_var (fun _ => ?_) (fun _ => ?_)))
      exact weak_flat rfl h0 rfl
end
end Go.Proofs.YtgglaaldlegckaaDoor
namespace Go.Proofs.YtgglaaldlegckaaDoor
open Go Go.Itp
set_option maxRecDepth 100000
set_option maxHeartbeats 1000000
set_option linter.unusedSimpArgs false
section
variable (w : World) (n : Nat)
theorem pwind_p (s : Nat) (l : List Int) (p : Int) (t : Bool) (hl : l.length ≤ 5000) : VSpec (EN w (n + 6)) 26 [.sl s l.length (l.map iD), .sc (.int .i64 p), .sc (.bool t)] (resV (windF l p t)) (resS (windF l p t)) := by
  refine vspec_g rfl rfl (fun _ _ => rfl) (Nat.le_of_ble_eq_true rfl) (oldVals w) (retOK_tgr (map_nil_iff rfl)) rfl fun C hC h0 => ?_
  by_cases c1 : l.length = 0 ∨ 64 < l.length
  · have e : windF l p t = ([], 2) := if_pos c1
    rw [e]
    rcases c1 with c1 | c1
    all_goals
      repeat' (first | (simp (disch := first | omega | assumption | (refine @id ((_ : Bool) = _) ?_; exact id (by with_unfolding_all rfl)) | (exact Or.inl rfl) | (exact Or.inl trivial) | (exact okL_map _ (fun _ => rfl) _) | (simp only [VVlen] <;> omega) | fail) only [VV0, VV1, VV2, VV3, VV4, VV5, VV6, VV7, VV8, mkFnV, vargs, slotsL, opdsA, Nat.reduceEqDiff, Nat.reduceLT, Nat.reduceAdd, Nat.reduceBEq, Int.reduceAdd, Int.reduceSub, Int.reduceLT, Int.reduceLE, Int.reduceEq, Int.reduceNeg, ↓reduceIte, reduceCtorEq, scL, scD, expand, List.replicate, c26, c1]) | (refine gC_drawW ?_) | (refine gI_dec (fun _ => ?_) (fun _ => ?_)) | (refine gG_dec (fun _ => ?_) (fun _ => ?_)) | (refine gPG_dec (fun _ => ?_) (fun _ => ?_)) | (refine gI_var (fun _ => ?_) (fun _ => ?_)) | (refine gG_var (fun _ => ?_) (fun _ => ?_)) | (refine gPG_var (fun _ => ?_) (fun _ => ?_)))
      all_goals first | exact weak_tupNil 3 1 rfl h0 rfl | exact absurd trivial ‹¬True› | (exfalso; omega)
  have c1a : ¬ l.length = 0 := fun h => c1 (.inl h)
  have c1b : ¬ 64 < l.length := fun h => c1 (.inr h)
  have hck := fun st => (check_p w n s l (by omega)).of hC rfl st rfl
  by_cases c2 : chk l ≠ 0
  · have e : windF l p t = ([], 8) := by unfold windF; rw [if_neg c1, if_pos c2]
    rw [e]
    repeat' (first | (simp (disch := first | omega | assumption | (refine @id ((_ : Bool) = _) ?_; exact id (by with_unfolding_all rfl)) | (exact Or.inl rfl) | (exact Or.inl trivial) | (exact okL_map _ (fun _ => rfl) _) | (simp only [VVlen] <;> omega) | fail) only [VV0, VV1, VV2, VV3, VV4, VV5, VV6, VV7, VV8, mkFnV, vargs, slotsL, opdsA, Nat.reduceEqDiff, Nat.reduceLT, Nat.reduceAdd, Nat.reduceBEq, Int.reduceAdd, Int.reduceSub, Int.reduceLT, Int.reduceLE, Int.reduceEq, Int.reduceNeg, ↓reduceIte, reduceCtorEq, scL, scD, expand, List.replicate, c26]) | (refine gC_drawW ?_) | (refine gI_dec (fun _ => ?_) (fun _ => ?_)) | (refine gG_dec (fun _ => ?_) (fun _ => ?_)) | (refine gPG_dec (fun _ => ?_) (fun _ => ?_)) | (refine gI_var (fun _ => ?_) (fun _ => ?_)) | (refine gG_var (fun _ => ?_) (fun _ => ?_)) | (refine gPG_var (fun _ => ?_) (fun _ => ?_)))
    refine callV_flat (hck _) ?_
    repeat' (first | (simp (disch := first | omega | assumption | (refine @id ((_ : Bool) = _) ?_; exact id (by with_unfolding_all rfl)) | (exact Or.inl rfl) | (exact Or.inl trivial) | (exact okL_map _ (fun _ => rfl) _) | (simp only [VVlen] <;> omega) | fail) only [VV0, VV1, VV2, VV3, VV4, VV5, VV6, VV7, VV8, mkFnV, vargs, slotsL, opdsA, Nat.reduceEqDiff, Nat.reduceLT, Nat.reduceAdd, Nat.reduceBEq, Int.reduceAdd, Int.reduceSub, Int.reduceLT, Int.reduceLE, Int.reduceEq, Int.reduceNeg, ↓reduceIte, reduceCtorEq, scL, scD, expand, List.replicate]) | (refine gC_drawW ?_) | (refine gI_dec (fun _ => ?_) (fun _ => ?_)) | (refine gG_dec (fun _ => ?_) (fun _ => ?_)) | (refine gPG_dec (fun _ => ?_) (fun _ => ?_)) | (refine gI_var (fun _ => ?_) (fun _ => ?_)) | (refine gG_var (fun _ => ?_) (fun _ => ?_)) | (refine gPG_var (fun _ => ?_) (fun _ => ?_)))
    all_goals first | exact weak_tupNil 3 1 rfl h0 rfl | exact absurd trivial ‹¬True› | contradiction
  have c2' : chk l = 0 := Classical.not_not.1 c2
  rw [c2'] at hck
  by_cases c3 : p < 0 ∨ 4000 < p
  · have e : windF l p t = ([], 2) := by unfold windF; rw [if_neg c1, if_neg c2, if_pos c3]
    rw [e]
    rcases c3 with c3 | c3
    all_goals
      repeat' (first | (simp (disch := first | omega | assumption | (refine @id ((_ : Bool) = _) ?_; exact id (by with_unfolding_all rfl)) | (exact Or.inl rfl) | (exact Or.inl trivial) | (exact okL_map _ (fun _ => rfl) _) | (simp only [VVlen] <;> omega) | fail) only [VV0, VV1, VV2, VV3, VV4, VV5, VV6, VV7, VV8, mkFnV, vargs, slotsL, opdsA, Nat.reduceEqDiff, Nat.reduceLT, Nat.reduceAdd, Nat.reduceBEq, Int.reduceAdd, Int.reduceSub, Int.reduceLT, Int.reduceLE, Int.reduceEq, Int.reduceNeg, ↓reduceIte, reduceCtorEq, scL, scD, expand, List.replicate, c26]) | (refine gC_drawW ?_) | (refine gI_dec (fun _ => ?_) (fun _ => ?_)) | (refine gG_dec (fun _ => ?_) (fun _ => ?_)) | (refine gPG_dec (fun _ => ?_) (fun _ => ?_)) | (refine gI_var (fun _ => ?_) (fun _ => ?_)) | (refine gG_var (fun _ => ?_) (fun _ => ?_)) | (refine gPG_var (fun _ => ?_) (fun _ => ?_)))
      refine callV_flat (hck _) ?_
      repeat' (first | (simp (disch := first | omega | assumption | (refine @id ((_ : Bool) = _) ?_; exact id (by with_unfolding_all rfl)) | (exact Or.inl rfl) | (exact Or.inl trivial) | (exact okL_map _ (fun _ => rfl) _) | (simp only [VVlen] <;> omega) | fail) only [VV0, VV1, VV2, VV3, VV4, VV5, VV6, VV7, VV8, mkFnV, vargs, slotsL, opdsA, Nat.reduceEqDiff, Nat.reduceLT, Nat.reduceAdd, Nat.reduceBEq, Int.reduceAdd, Int.reduceSub, Int.reduceLT, Int.reduceLE, Int.reduceEq, Int.reduceNeg, ↓reduceIte, reduceCtorEq, scL, scD, expand, List.replicate]) | (refine gC_drawW ?_) | (refine gI_dec (fun _ => ?_) (fun _ => ?_)) | (refine gG_dec (fun _ => ?_) (fun _ => ?_)) | (refine gPG_dec (fun _ => ?_) (fun _ => ?_)) | (refine gI_var (fun _ => ?_) (fun _ => ?_)) | (refine gG_var (fun _ => ?_) (fun _ => ?_)) | (refine gPG_var (fun _ => ?_) (fun _ => ?_)))
      all_goals first | exact weak_tupNil 3 1 rfl h0 rfl | exact absurd trivial ‹¬True›
  obtain ⟨q, rfl⟩ : ∃ q : Nat, p = q := ⟨p.toNat, by omega⟩
  have hpl : (q : Int) * (l.length : Int) = ((q * l.length : Nat) : Int) := by simp
  have hq : q ≤ 4000 := by omega
  have hqb : q * l.length ≤ 4000 * 64 := Nat.mul_le_mul hq (by omega)
  by_cases c4 : 4000 < (q : Int) * l.length
  · have e : windF l q t = ([], 4) := by unfold windF; rw [if_neg c1, if_neg c2, if_neg c3, if_pos c4]
    rw [e]
    rw [hpl] at c4
    repeat' (first | (simp (disch := first | omega | assumption | (refine @id ((_ : Bool) = _) ?_; exact id (by with_unfolding_all rfl)) | (exact Or.inl rfl) | (exact Or.inl trivial) | (exact okL_map _ (fun _ => rfl) _) | (simp only [VVlen] <;> omega) | fail) only [VV0, VV1, VV2, VV3, VV4, VV5, VV6, VV7, VV8, mkFnV, vargs, slotsL, opdsA, Nat.reduceEqDiff, Nat.reduceLT, Nat.reduceAdd, Nat.reduceBEq, Int.reduceAdd, Int.reduceSub, Int.reduceLT, Int.reduceLE, Int.reduceEq, Int.reduceNeg, ↓reduceIte, reduceCtorEq, scL, scD, expand, List.replicate, c26]) | (refine gC_drawW ?_) | (refine gI_dec (fun _ => ?_) (fun _ => ?_)) | (refine gG_dec (fun _ => ?_) (fun _ => ?_)) | (refine gPG_dec (fun _ => ?_) (fun _ => ?_)) | (refine gI_var (fun _ => ?_) (fun _ => ?_)) | (refine gG_var (fun _ => ?_) (fun _ => ?_)) | (refine gPG_var (fun _ => ?_) (fun _ => ?_)))
    refine callV_flat (hck _) ?_
    repeat' (first | (simp (disch := first | omega | assumption | (refine @id ((_ : Bool) = _) ?_; exact id (by with_unfolding_all rfl)) | (exact Or.inl rfl) | (exact Or.inl trivial) | (exact okL_map _ (fun _ => rfl) _) | (simp only [VVlen] <;> omega) | fail) only [VV0, VV1, VV2, VV3, VV4, VV5, VV6, VV7, VV8, mkFnV, vargs, slotsL, opdsA, Nat.reduceEqDiff, Nat.reduceLT, Nat.reduceAdd, Nat.reduceBEq, Int.reduceAdd, Int.reduceSub, Int.reduceLT, Int.reduceLE, Int.reduceEq, Int.reduceNeg, ↓reduceIte, reduceCtorEq, scL, scD, expand, List.replicate, hpl]) | (refine gC_drawW ?_) | (refine gI_dec (fun _ => ?_) (fun _ => ?_)) | (refine gG_dec (fun _ => ?_) (fun _ => ?_)) | (refine gPG_dec (fun _ => ?_) (fun _ => ?_)) | (refine gI_var (fun _ => ?_) (fun _ => ?_)) | (refine gG_var (fun _ => ?_) (fun _ => ?_)) | (refine gPG_var (fun _ => ?_) (fun _ => ?_)))
    all_goals first | exact weak_tupNil 3 1 rfl h0 rfl | exact absurd trivial ‹¬True›
  have e : windF l q t = (windP l t q, 0) := by unfold windF; rw [if_neg c1, if_neg c2, if_neg c3, if_neg c4, wind_eq l t (by omega)]; rfl
  rw [e]
  rw [hpl] at c4
  repeat' (first | (simp (disch := first | omega | assumption | (refine @id ((_ : Bool) = _) ?_; exact id (by with_unfolding_all rfl)) | (exact Or.inl rfl) | (exact Or.inl trivial) | (exact okL_map _ (fun _ => rfl) _) | (simp only [VVlen] <;> omega) | fail) only [VV0, VV1, VV2, VV3, VV4, VV5, VV6, VV7, VV8, mkFnV, vargs, slotsL, opdsA, Nat.reduceEqDiff, Nat.reduceLT, Nat.reduceAdd, Nat.reduceBEq, Int.reduceAdd, Int.reduceSub, Int.reduceLT, Int.reduceLE, Int.reduceEq, Int.reduceNeg, ↓reduceIte, reduceCtorEq, scL, scD, expand, List.replicate, c26]) | (refine gC_drawW ?_) | (refine gI_dec (fun _ => ?_) (fun _ => ?_)) | (refine gG_dec (fun _ => ?_) (fun _ => ?_)) | (refine gPG_dec (fun _ => ?_) (fun _ => ?_)) | (refine gI_var (fun _ => ?_) (fun _ => ?_)) | (refine gG_var (fun _ => ?_) (fun _ => ?_)) | (refine gPG_var (fun _ => ?_) (fun _ => ?_)))
  refine callV_flat (hck _) ?_
  repeat' (first | (simp (disch := first | omega | assumption | (refine @id ((_ : Bool) = _) ?_; exact id (by with_unfolding_all rfl)) | (exact Or.inl rfl) | (exact Or.inl trivial) | (exact okL_map _ (fun _ => rfl) _) | (simp only [VVlen] <;> omega) | fail) only [VV0, VV1, VV2, VV3, VV4, VV5, VV6, VV7, VV8, mkFnV, vargs, slotsL, opdsA, Nat.reduceEqDiff, Nat.reduceLT, Nat.reduceAdd, Nat.reduceBEq, Int.reduceAdd, Int.reduceSub, Int.reduceLT, Int.reduceLE, Int.reduceEq, Int.reduceNeg, ↓reduceIte, reduceCtorEq, scL, scD, expand, List.replicate, hpl]) | (refine gC_drawW ?_) | (refine gI_dec (fun _ => ?_) (fun _ => ?_)) | (refine gG_dec (fun _ => ?_) (fun _ => ?_)) | (refine gPG_dec (fun _ => ?_) (fun _ => ?_)) | (refine gI_var (fun _ => ?_) (fun _ => ?_)) | (refine gG_var (fun _ => ?_) (fun _ => ?_)) | (refine gPG_var (fun _ => ?_) (fun _ => ?_)))
  refine callV_flat ((fun st => (of_p w (n + 4) t).of hC rfl st rfl) _) ?_
  repeat' (first | (simp (disch := first | omega | assumption | (refine @id ((_ : Bool) = _) ?_; exact id (by with_unfolding_all rfl)) | (exact Or.inl rfl) | (exact Or.inl trivial) | (exact okL_map _ (fun _ => rfl) _) | (simp only [VVlen] <;> omega) | fail) only [VV0, VV1, VV2, VV3, VV4, VV5, VV6, VV7, VV8, mkFnV, vargs, slotsL, opdsA, Nat.reduceEqDiff, Nat.reduceLT, Nat.reduceAdd, Nat.reduceBEq, Int.reduceAdd, Int.reduceSub, Int.reduceLT, Int.reduceLE, Int.reduceEq, Int.reduceNeg, ↓reduceIte, reduceCtorEq, scL, scD, expand, List.replicate]) | (refine gC_drawW ?_) | (refine gI_dec (fun _ => ?_) (fun _ => ?_)) | (refine gG_dec (fun _ => ?_) (fun _ => ?_)) | (refine gPG_dec (fun _ => ?_) (fun _ => ?_)) | (refine gI_var (fun _ => ?_) (fun _ => ?_)) | (refine gG_var (fun _ => ?_) (fun _ => ?_)) | (refine gPG_var (fun _ => ?_) (fun _ => ?_)))
  refine callV_of (by rw [hC]; exact wind_p w (n + 2) t s l q (by omega) hl hq) rfl rfl rfl ?_
  repeat' (first | (simp (disch := first | omega | assumption | (refine @id ((_ : Bool) = _) ?_; exact id (by with_unfolding_all rfl)) | (exact Or.inl rfl) | (exact Or.inl trivial) | (exact okL_map _ (fun _ => rfl) _) | (simp only [VVlen] <;> omega) | fail) only [VV0, VV1, VV2, VV3, VV4, VV5, VV6, VV7, VV8, mkFnV, vargs, slotsL, opdsA, Nat.reduceEqDiff, Nat.reduceLT, Nat.reduceAdd, Nat.reduceBEq, Int.reduceAdd, Int.reduceSub, Int.reduceLT, Int.reduceLE, Int.reduceEq, Int.reduceNeg, ↓reduceIte, reduceCtorEq, scL, scD, expand, List.replicate, vsh, shH, shO, fzSL, fzS]) | (refine gC_drawW ?_) | (refine gI_dec (fun _ => ?_) (fun _ => ?_)) | (refine gG_dec (fun _ => ?_) (fun _ => ?_)) | (refine gPG_dec (fun _ => ?_) (fun _ => ?_)) | (refine gI_var (fun _ => ?_) (fun _ => ?_)) | (refine gG_var (fun _ => ?_) (fun _ => ?_)) | (refine gPG_var (fun _ => ?_) (fun _ => ?_)))
  exact .refl _ _
end
end Go.Proofs.YtgglaaldlegckaaDoor
namespace Go.Proofs.YtgglaaldlegckaaDoor
open Go Go.Itp
set_option maxRecDepth 100000
set_option maxHeartbeats 1000000
set_option linter.unusedSimpArgs false
section
variable (w : World) (n : Nat)
end
end Go.Proofs.YtgglaaldlegckaaDoor
namespace Go.Proofs.YtgglaaldlegckaaDoor
open Go Go.Itp
set_option maxRecDepth 100000
set_option maxHeartbeats 1000000
set_option linter.unusedSimpArgs false
section
variable (w : World) (n : Nat)
end
end Go.Proofs.YtgglaaldlegckaaDoor
namespace Go.Proofs.YtgglaaldlegckaaDoor
open Go Go.Itp
set_option maxRecDepth 100000
set_option maxHeartbeats 1000000
set_option linter.unusedSimpArgs false
section
variable (w : World) (n : Nat)
end
end Go.Proofs.YtgglaaldlegckaaDoor
namespace Go.Proofs.YtgglaaldlegckaaDoor
open Go Go.Itp
set_option maxRecDepth 100000
set_option maxHeartbeats 1000000
set_option linter.unusedSimpArgs false
theorem cone_false (i n : Nat) : cone i n false = i % n := by unfold cone; rw [if_neg (fun h => by cases h.1)]
theorem cone_end {n p i : Nat} (h0 : 0 < n) (hi : i < 2 * p * n) : cone (2 * p * n - 1 - i) n true = cone i n true := by
  have hq : i / n < 2 * p := Nat.div_lt_of_lt_mul (by rw [Nat.mul_comm]; exact hi)
  have hdm := Nat.div_add_mod i n
  have hm := Nat.mod_lt i h0
  unfold cone
  generalize i / n = d at *
  generalize i % n = m at *
  obtain ⟨r, hr⟩ : ∃ r, 2 * p = d + 1 + r := ⟨2 * p - 1 - d, by omega⟩
  have e : 2 * p * n - 1 - i = n * r + (n - 1 - m) := by
    rw [hr, Nat.add_mul, Nat.add_mul, Nat.one_mul, Nat.mul_comm d n, Nat.mul_comm r n]; omega
  have hd : (2 * p * n - 1 - i) / n = r := by
    rw [e, Nat.mul_add_div h0, Nat.div_eq_of_lt (by omega)]; omega
  have hmm : (2 * p * n - 1 - i) % n = n - 1 - m := by
    rw [e, Nat.mul_add_mod, Nat.mod_eq_of_lt (by omega)]
  rw [hd, hmm]
  by_cases h : d % 2 = 1
  · rw [if_neg (c := true = true ∧ r % 2 = 1) (fun hh => by have := hh.2; omega), if_pos (c := true = true ∧ d % 2 = 1) ⟨rfl, h⟩]
  · rw [if_pos (c := true = true ∧ r % 2 = 1) ⟨rfl, by omega⟩, if_neg (c := true = true ∧ d % 2 = 1) (fun hh => h hh.2)]
    omega
theorem windF_at {l : List Int} {t : Bool} {q : Nat} (h0 : chk l = 0) (h1 : 0 < l.length) (h2 : l.length ≤ 20) (hq : q ≤ 40) : windF l q t = (windR l t (q * l.length), 0) := by
  have hb : q * l.length ≤ 40 * 20 := Nat.mul_le_mul hq h2
  have hpl : (q : Int) * (l.length : Int) = ((q * l.length : Nat) : Int) := by simp
  unfold windF
  rw [if_neg (by omega), if_neg (fun h => h h0), if_neg (by omega), if_neg (by rw [hpl]; omega)]
  rfl
theorem chk_rev {l : List Int} (h : chk l = 0) : chk l.reverse = 0 := by
  unfold chk at h ⊢
  rw [List.length_reverse, List.all_reverse]
  exact h
theorem turned_1 {l : List Int} {p i : Nat} (h0 : 0 < l.length) (hi : i < 2 * p * l.length) : (windR l true (2 * p * l.length))[2 * p * l.length - 1 - i]! = (windR l true (2 * p * l.length))[i]! := by
  rw [windR_get _ _ _ _ (by omega), windR_get _ _ _ _ hi, cone_end h0 hi]
def bk (l : List Int) (k : Nat) : List Int := l.reverse.take k
theorem bk_step {l : List Int} {k : Nat} (h : k < l.length) : bk l (k + 1) = bk l k ++ [l[l.length - 1 - k]!] := by
  unfold bk
  rw [List.take_add_one, List.getElem?_eq_getElem (by simpa using h), List.getElem_reverse, getElem!_pos l _ (by omega)]
  rfl
theorem bk_len {l : List Int} {k : Nat} (h : k ≤ l.length) : (bk l k).length = k := by unfold bk; rw [List.length_take, List.length_reverse]; omega
theorem snap_gr {H : VHp} {o t : Nat} {z : Bool} {l : List Int} (h : aget H o = some (.gro t 1 z (l.map iD))) : snapV H (.gr 2 o l.length) = some (.sl 2 l.length (l.map iD)) := by
  simp only [snapV, toD, h, List.length_map, Nat.mul_one]
  rw [if_pos (by simp)]
  rfl
theorem turned_g (w : World) (l : List Int) (p : Int) (hl : l.length ≤ 140737488351232) {C : Ctx} (hC : C.E = EN w 8) (h0 : C.w0.nx = 0) :
    gC C c5.code [] (vargs 0 [.sl 3 l.length (l.map iD), .sc (.int .i64 p)]) ⟨[], 0, 0⟩ (RetV C c5.res (.sc (.bool true)) ⟨[], 0, 0⟩) := by
  have hck := fun st => (rcheck_p w 7 3 l hl).of hC rfl st rfl
  repeat' (first | (simp (disch := first | omega | assumption | (refine @id ((_ : Bool) = _) ?_; exact id (by with_unfolding_all rfl)) | (exact Or.inl rfl) | (exact Or.inl trivial) | (exact okL_map _ (fun _ => rfl) _) | (simp only [VVlen] <;> omega) | fail) only [VV0, VV1, VV2, VV3, VV4, VV5, VV6, VV7, VV8, mkFnV, vargs, slotsL, opdsA, Nat.reduceEqDiff, Nat.reduceLT, Nat.reduceAdd, Nat.reduceBEq, Int.reduceAdd, Int.reduceSub, Int.reduceLT, Int.reduceLE, Int.reduceEq, Int.reduceNeg, ↓reduceIte, reduceCtorEq, scL, scD, expand, List.replicate, c5]) | (refine gC_drawW ?_) | (refine gI_dec (fun _ => ?_) (fun _ => ?_)) | (refine gG_dec (fun _ => ?_) (fun _ => ?_)) | (refine gPG_dec (fun _ => ?_) (fun _ => ?_)) | (refine gI_var (fun _ => ?_) (fun _ => ?_)) | (refine gG_var (fun _ => ?_) (fun _ => ?_)) | (refine gPG_var (fun _ => ?_) (fun _ => ?_)))
  refine callV_flat (by rw [hC]; exact alive_o w 7 _) ?_
  by_cases c1 : l.length = 0 ∨ 20 < l.length
  · rcases c1 with c1 | c1
    all_goals
      repeat' (first | (simp (disch := first | omega | assumption | (refine @id ((_ : Bool) = _) ?_; exact id (by with_unfolding_all rfl)) | (exact Or.inl rfl) | (exact Or.inl trivial) | (exact okL_map _ (fun _ => rfl) _) | (simp only [VVlen] <;> omega) | fail) only [VV0, VV1, VV2, VV3, VV4, VV5, VV6, VV7, VV8, mkFnV, vargs, slotsL, opdsA, Nat.reduceEqDiff, Nat.reduceLT, Nat.reduceAdd, Nat.reduceBEq, Int.reduceAdd, Int.reduceSub, Int.reduceLT, Int.reduceLE, Int.reduceEq, Int.reduceNeg, ↓reduceIte, reduceCtorEq, scL, scD, expand, List.replicate, c1]) | (refine gC_drawW ?_) | (refine gI_dec (fun _ => ?_) (fun _ => ?_)) | (refine gG_dec (fun _ => ?_) (fun _ => ?_)) | (refine gPG_dec (fun _ => ?_) (fun _ => ?_)) | (refine gI_var (fun _ => ?_) (fun _ => ?_)) | (refine gG_var (fun _ => ?_) (fun _ => ?_)) | (refine gPG_var (fun _ => ?_) (fun _ => ?_)))
      all_goals try (exfalso; omega)
      exact weak_flat rfl h0 rfl
  by_cases c2 : chk l = 0
  case neg =>
    generalize chk l = x at c2 hck
    repeat' (first | (simp (disch := first | omega | assumption | (refine @id ((_ : Bool) = _) ?_; exact id (by with_unfolding_all rfl)) | (exact Or.inl rfl) | (exact Or.inl trivial) | (exact okL_map _ (fun _ => rfl) _) | (simp only [VVlen] <;> omega) | fail) only [VV0, VV1, VV2, VV3, VV4, VV5, VV6, VV7, VV8, mkFnV, vargs, slotsL, opdsA, Nat.reduceEqDiff, Nat.reduceLT, Nat.reduceAdd, Nat.reduceBEq, Int.reduceAdd, Int.reduceSub, Int.reduceLT, Int.reduceLE, Int.reduceEq, Int.reduceNeg, ↓reduceIte, reduceCtorEq, scL, scD, expand, List.replicate]) | (refine gC_drawW ?_) | (refine gI_dec (fun _ => ?_) (fun _ => ?_)) | (refine gG_dec (fun _ => ?_) (fun _ => ?_)) | (refine gPG_dec (fun _ => ?_) (fun _ => ?_)) | (refine gI_var (fun _ => ?_) (fun _ => ?_)) | (refine gG_var (fun _ => ?_) (fun _ => ?_)) | (refine gPG_var (fun _ => ?_) (fun _ => ?_)))
    all_goals try (exfalso; omega)
    refine callV_flat (hck _) ?_
    repeat' (first | (simp (disch := first | omega | assumption | (refine @id ((_ : Bool) = _) ?_; exact id (by with_unfolding_all rfl)) | (exact Or.inl rfl) | (exact Or.inl trivial) | (exact okL_map _ (fun _ => rfl) _) | (simp only [VVlen] <;> omega) | fail) only [VV0, VV1, VV2, VV3, VV4, VV5, VV6, VV7, VV8, mkFnV, vargs, slotsL, opdsA, Nat.reduceEqDiff, Nat.reduceLT, Nat.reduceAdd, Nat.reduceBEq, Int.reduceAdd, Int.reduceSub, Int.reduceLT, Int.reduceLE, Int.reduceEq, Int.reduceNeg, ↓reduceIte, reduceCtorEq, scL, scD, expand, List.replicate]) | (refine gC_drawW ?_) | (refine gI_dec (fun _ => ?_) (fun _ => ?_)) | (refine gG_dec (fun _ => ?_) (fun _ => ?_)) | (refine gPG_dec (fun _ => ?_) (fun _ => ?_)) | (refine gI_var (fun _ => ?_) (fun _ => ?_)) | (refine gG_var (fun _ => ?_) (fun _ => ?_)) | (refine gPG_var (fun _ => ?_) (fun _ => ?_)))
    all_goals first | exact weak_flat rfl h0 rfl | contradiction
  rw [c2] at hck
  by_cases c3 : p < 0 ∨ 20 < p
  · rcases c3 with c3 | c3
    all_goals
      repeat' (first | (simp (disch := first | omega | assumption | (refine @id ((_ : Bool) = _) ?_; exact id (by with_unfolding_all rfl)) | (exact Or.inl rfl) | (exact Or.inl trivial) | (exact okL_map _ (fun _ => rfl) _) | (simp only [VVlen] <;> omega) | fail) only [VV0, VV1, VV2, VV3, VV4, VV5, VV6, VV7, VV8, mkFnV, vargs, slotsL, opdsA, Nat.reduceEqDiff, Nat.reduceLT, Nat.reduceAdd, Nat.reduceBEq, Int.reduceAdd, Int.reduceSub, Int.reduceLT, Int.reduceLE, Int.reduceEq, Int.reduceNeg, ↓reduceIte, reduceCtorEq, scL, scD, expand, List.replicate]) | (refine gC_drawW ?_) | (refine gI_dec (fun _ => ?_) (fun _ => ?_)) | (refine gG_dec (fun _ => ?_) (fun _ => ?_)) | (refine gPG_dec (fun _ => ?_) (fun _ => ?_)) | (refine gI_var (fun _ => ?_) (fun _ => ?_)) | (refine gG_var (fun _ => ?_) (fun _ => ?_)) | (refine gPG_var (fun _ => ?_) (fun _ => ?_)))
      all_goals try (exfalso; omega)
      refine callV_flat (hck _) ?_
      repeat' (first | (simp (disch := first | omega | assumption | (refine @id ((_ : Bool) = _) ?_; exact id (by with_unfolding_all rfl)) | (exact Or.inl rfl) | (exact Or.inl trivial) | (exact okL_map _ (fun _ => rfl) _) | (simp only [VVlen] <;> omega) | fail) only [VV0, VV1, VV2, VV3, VV4, VV5, VV6, VV7, VV8, mkFnV, vargs, slotsL, opdsA, Nat.reduceEqDiff, Nat.reduceLT, Nat.reduceAdd, Nat.reduceBEq, Int.reduceAdd, Int.reduceSub, Int.reduceLT, Int.reduceLE, Int.reduceEq, Int.reduceNeg, ↓reduceIte, reduceCtorEq, scL, scD, expand, List.replicate]) | (refine gC_drawW ?_) | (refine gI_dec (fun _ => ?_) (fun _ => ?_)) | (refine gG_dec (fun _ => ?_) (fun _ => ?_)) | (refine gPG_dec (fun _ => ?_) (fun _ => ?_)) | (refine gI_var (fun _ => ?_) (fun _ => ?_)) | (refine gG_var (fun _ => ?_) (fun _ => ?_)) | (refine gPG_var (fun _ => ?_) (fun _ => ?_)))
      all_goals first | exact weak_flat rfl h0 rfl | exact absurd trivial ‹¬True›
  obtain ⟨q, rfl⟩ : ∃ q : Nat, p = q := ⟨p.toNat, by omega⟩
  have hq : q ≤ 20 := by omega
  repeat' (first | (simp (disch := first | omega | assumption | (refine @id ((_ : Bool) = _) ?_; exact id (by with_unfolding_all rfl)) | (exact Or.inl rfl) | (exact Or.inl trivial) | (exact okL_map _ (fun _ => rfl) _) | (simp only [VVlen] <;> omega) | fail) only [VV0, VV1, VV2, VV3, VV4, VV5, VV6, VV7, VV8, mkFnV, vargs, slotsL, opdsA, Nat.reduceEqDiff, Nat.reduceLT, Nat.reduceAdd, Nat.reduceBEq, Int.reduceAdd, Int.reduceSub, Int.reduceLT, Int.reduceLE, Int.reduceEq, Int.reduceNeg, ↓reduceIte, reduceCtorEq, scL, scD, expand, List.replicate]) | (refine gC_drawW ?_) | (refine gI_dec (fun _ => ?_) (fun _ => ?_)) | (refine gG_dec (fun _ => ?_) (fun _ => ?_)) | (refine gPG_dec (fun _ => ?_) (fun _ => ?_)) | (refine gI_var (fun _ => ?_) (fun _ => ?_)) | (refine gG_var (fun _ => ?_) (fun _ => ?_)) | (refine gPG_var (fun _ => ?_) (fun _ => ?_)))
  all_goals try (exfalso; omega)
  refine callV_flat (hck _) ?_
  repeat' (first | (simp (disch := first | omega | assumption | (refine @id ((_ : Bool) = _) ?_; exact id (by with_unfolding_all rfl)) | (exact Or.inl rfl) | (exact Or.inl trivial) | (exact okL_map _ (fun _ => rfl) _) | (simp only [VVlen] <;> omega) | fail) only [VV0, VV1, VV2, VV3, VV4, VV5, VV6, VV7, VV8, mkFnV, vargs, slotsL, opdsA, Nat.reduceEqDiff, Nat.reduceLT, Nat.reduceAdd, Nat.reduceBEq, Int.reduceAdd, Int.reduceSub, Int.reduceLT, Int.reduceLE, Int.reduceEq, Int.reduceNeg, ↓reduceIte, reduceCtorEq, scL, scD, expand, List.replicate]) | (refine gC_drawW ?_) | (refine gI_dec (fun _ => ?_) (fun _ => ?_)) | (refine gG_dec (fun _ => ?_) (fun _ => ?_)) | (refine gPG_dec (fun _ => ?_) (fun _ => ?_)) | (refine gI_var (fun _ => ?_) (fun _ => ?_)) | (refine gG_var (fun _ => ?_) (fun _ => ?_)) | (refine gPG_var (fun _ => ?_) (fun _ => ?_)))
  refine g_while (fun m fr st => ∃ k : Nat, m = l.length - k ∧ k ≤ l.length ∧ fr = [(0, .sl 3 l.length (l.map iD)), (1, .sc (.int .i64 q)), (5, .sc (.bool true)), (6, .gr 2 0 k), (7, .sc (.int .i64 ((l.length : Int) - 1 - k)))] ∧ st = ⟨[(0, .gro 3 1 false ((bk l k).map iD))], 1, 0⟩) l.length ?_ ⟨_, _, weak_nilSlot 6 3 1 rfl, 0, ?_⟩ ?_
  · rw [hC, callP_rounds]; unfold many; omega
  · exact ⟨by omega, by omega, by simp; rfl, by simp [bk]⟩
  rintro m fr st ⟨k, rfl, hk, rfl, rfl⟩
  by_cases hlt : k < l.length
  · have hbl := bk_len (l := l) (k := k) (by omega)
    have hst := bk_step hlt
    obtain ⟨j, hj⟩ : ∃ j : Nat, (l.length : Int) - 1 - k = j := ⟨l.length - 1 - k, by omega⟩
    rw [hj]
    repeat' (first | (simp (disch := first | omega | assumption | (refine @id ((_ : Bool) = _) ?_; exact id (by with_unfolding_all rfl)) | (exact Or.inl rfl) | (exact Or.inl trivial) | (exact okL_map _ (fun _ => rfl) _) | (simp only [VVlen] <;> omega) | fail) only [VV0, VV1, VV2, VV3, VV4, VV5, VV6, VV7, VV8, mkFnV, vargs, slotsL, opdsA, Nat.reduceEqDiff, Nat.reduceLT, Nat.reduceAdd, Nat.reduceBEq, Int.reduceAdd, Int.reduceSub, Int.reduceLT, Int.reduceLE, Int.reduceEq, Int.reduceNeg, ↓reduceIte, reduceCtorEq, scL, scD, expand, List.replicate, c5l2, iD_dv]) | (refine gC_drawW ?_) | (refine gI_dec (fun _ => ?_) (fun _ => ?_)) | (refine gG_dec (fun _ => ?_) (fun _ => ?_)) | (refine gPG_dec (fun _ => ?_) (fun _ => ?_)) | (refine gI_var (fun _ => ?_) (fun _ => ?_)) | (refine gG_var (fun _ => ?_) (fun _ => ?_)) | (refine gPG_var (fun _ => ?_) (fun _ => ?_)))
    all_goals try (exfalso; omega)
    refine ⟨_, _, _, by omega, weak_to [(2, 0)] 1 h0 rfl rfl rfl rfl, k + 1, rfl, hlt, ?_, ?_⟩
    · rw [show (l.length : Int) - 1 - ((k + 1 : Nat) : Int) = (j : Int) - 1 by omega]
      rfl
    · rw [hst, List.map_append, show l.length - 1 - k = j by omega]
      rfl
  have : k = l.length := by omega
  subst this
  obtain ⟨R, hR⟩ : ∃ R, R = l.reverse := ⟨_, rfl⟩
  have hRl : R.length = l.length := by rw [hR, List.length_reverse]
  have hRb : bk l l.length = R := by rw [hR]; exact List.take_of_length_le (by rw [List.length_reverse]; exact Nat.le_refl _)
  have hRc : chk R = 0 := by rw [hR]; exact chk_rev c2
  rw [hRb, show V.gr 2 0 l.length = V.gr 2 0 R.length by rw [hRl]]
  have e2q : 2 * (q : Int) = ((2 * q : Nat) : Int) := by omega
  have s1 := pwind_p w 2 3 l (2 * (q : Int)) true (by omega)
  rw [show windF l (2 * (q : Int)) true = (windR l true (2 * q * l.length), 0) by rw [e2q]; exact windF_at c2 (by omega) (by omega) (by omega)] at s1
  have s2 := pwind_p w 2 2 R (2 * (q : Int)) true (by omega)
  rw [show windF R (2 * (q : Int)) true = (windR R true (2 * q * l.length), 0) by rw [e2q, windF_at hRc (by omega) (by omega) (by omega), hRl]] at s2
  have s3 := pwind_p w 2 3 l (q : Int) false (by omega)
  rw [windF_at c2 (by omega) (by omega) (by omega)] at s3
  obtain ⟨N, hN⟩ : ∃ N, N = 2 * q * l.length := ⟨_, rfl⟩
  obtain ⟨M, hM⟩ : ∃ M, M = q * l.length := ⟨_, rfl⟩
  have fX : ∀ i, i < N → (windR l true N)[N - 1 - i]! = (windR l true N)[i]! := fun i hi => by rw [hN] at hi ⊢; exact turned_1 (by omega) hi
  have fY : ∀ i, i < N → (windR R true N)[N - 1 - i]! = (windR R true N)[i]! := fun i hi => by rw [hN, ← hRl] at hi ⊢; exact turned_1 (by omega) hi
  have fC : ∀ i, i < N → (windR l true N)[i]! = l[cone i l.length true]! := fun i hi => windR_get _ _ _ _ hi
  have fZ : ∀ i, i < M → (windR l false M)[i]! = l[i % l.length]! := fun i hi => by rw [windR_get _ _ _ _ hi, cone_false]
  have hNi : 2 * (q : Int) * (l.length : Int) = (N : Int) := by rw [hN]; simp
  have hMi : (q : Int) * (l.length : Int) = (M : Int) := by rw [hM]; simp
  have hMb : M ≤ 20 * 20 := by rw [hM]; exact Nat.mul_le_mul hq (by omega)
  have hNb : N ≤ 40 * 20 := by rw [hN]; exact Nat.mul_le_mul (by omega) (by omega)
  rw [← hN] at s1 s2
  rw [← hM] at s3
  have hXl := windR_len l true N
  have hYl := windR_len R true N
  have hZl := windR_len l false M
  clear hN hM
  generalize windR l true N = X at *
  generalize windR R true N = Y at *
  generalize windR l false M = Z at *
  repeat' (first | (simp (disch := first | omega | assumption | (refine @id ((_ : Bool) = _) ?_; exact id (by with_unfolding_all rfl)) | (exact Or.inl rfl) | (exact Or.inl trivial) | (exact okL_map _ (fun _ => rfl) _) | (simp only [VVlen] <;> omega) | fail) only [VV0, VV1, VV2, VV3, VV4, VV5, VV6, VV7, VV8, mkFnV, vargs, slotsL, opdsA, Nat.reduceEqDiff, Nat.reduceLT, Nat.reduceAdd, Nat.reduceBEq, Int.reduceAdd, Int.reduceSub, Int.reduceLT, Int.reduceLE, Int.reduceEq, Int.reduceNeg, ↓reduceIte, reduceCtorEq, scL, scD, expand, List.replicate, c5l2, iD_dv]) | (refine gC_drawW ?_) | (refine gI_dec (fun _ => ?_) (fun _ => ?_)) | (refine gG_dec (fun _ => ?_) (fun _ => ?_)) | (refine gPG_dec (fun _ => ?_) (fun _ => ?_)) | (refine gI_var (fun _ => ?_) (fun _ => ?_)) | (refine gG_var (fun _ => ?_) (fun _ => ?_)) | (refine gPG_var (fun _ => ?_) (fun _ => ?_)))
  all_goals try (exfalso; omega)
  refine callV_of (by rw [hC]; exact s1) rfl rfl rfl ?_
  repeat' (first | (simp (disch := first | omega | assumption | (refine @id ((_ : Bool) = _) ?_; exact id (by with_unfolding_all rfl)) | (exact Or.inl rfl) | (exact Or.inl trivial) | (exact okL_map _ (fun _ => rfl) _) | (simp only [VVlen] <;> omega) | fail) only [VV0, VV1, VV2, VV3, VV4, VV5, VV6, VV7, VV8, mkFnV, vargs, slotsL, opdsA, Nat.reduceEqDiff, Nat.reduceLT, Nat.reduceAdd, Nat.reduceBEq, Int.reduceAdd, Int.reduceSub, Int.reduceLT, Int.reduceLE, Int.reduceEq, Int.reduceNeg, ↓reduceIte, reduceCtorEq, scL, scD, expand, List.replicate, vsh, vshL, shH, shO, fzSL, fzS]) | (refine gC_drawW ?_) | (refine gI_dec (fun _ => ?_) (fun _ => ?_)) | (refine gG_dec (fun _ => ?_) (fun _ => ?_)) | (refine gPG_dec (fun _ => ?_) (fun _ => ?_)) | (refine gI_var (fun _ => ?_) (fun _ => ?_)) | (refine gG_var (fun _ => ?_) (fun _ => ?_)) | (refine gPG_var (fun _ => ?_) (fun _ => ?_)))
  have hsn := snap_gr (H := [(1, .gro 3 1 false (X.map iD)), (0, .gro 3 1 false (R.map iD))]) (o := 0) (l := R) rfl
  refine callV_of (by rw [hC]; exact s2) (by rw [snapL, hsn]; rfl) rfl rfl ?_
  repeat' (first | (simp (disch := first | omega | assumption | (refine @id ((_ : Bool) = _) ?_; exact id (by with_unfolding_all rfl)) | (exact Or.inl rfl) | (exact Or.inl trivial) | (exact okL_map _ (fun _ => rfl) _) | (simp only [VVlen] <;> omega) | fail) only [VV0, VV1, VV2, VV3, VV4, VV5, VV6, VV7, VV8, mkFnV, vargs, slotsL, opdsA, Nat.reduceEqDiff, Nat.reduceLT, Nat.reduceAdd, Nat.reduceBEq, Int.reduceAdd, Int.reduceSub, Int.reduceLT, Int.reduceLE, Int.reduceEq, Int.reduceNeg, ↓reduceIte, reduceCtorEq, scL, scD, expand, List.replicate, vsh, vshL, shH, shO, fzSL, fzS]) | (refine gC_drawW ?_) | (refine gI_dec (fun _ => ?_) (fun _ => ?_)) | (refine gG_dec (fun _ => ?_) (fun _ => ?_)) | (refine gPG_dec (fun _ => ?_) (fun _ => ?_)) | (refine gI_var (fun _ => ?_) (fun _ => ?_)) | (refine gG_var (fun _ => ?_) (fun _ => ?_)) | (refine gPG_var (fun _ => ?_) (fun _ => ?_)))
  refine callV_of (by rw [hC]; exact s3) rfl rfl rfl ?_
  repeat' (first | (simp (disch := first | omega | assumption | (refine @id ((_ : Bool) = _) ?_; exact id (by with_unfolding_all rfl)) | (exact Or.inl rfl) | (exact Or.inl trivial) | (exact okL_map _ (fun _ => rfl) _) | (simp only [VVlen] <;> omega) | fail) only [VV0, VV1, VV2, VV3, VV4, VV5, VV6, VV7, VV8, mkFnV, vargs, slotsL, opdsA, Nat.reduceEqDiff, Nat.reduceLT, Nat.reduceAdd, Nat.reduceBEq, Int.reduceAdd, Int.reduceSub, Int.reduceLT, Int.reduceLE, Int.reduceEq, Int.reduceNeg, ↓reduceIte, reduceCtorEq, scL, scD, expand, List.replicate, vsh, vshL, shH, shO, fzSL, fzS, hNi, hMi]) | (refine gC_drawW ?_) | (refine gI_dec (fun _ => ?_) (fun _ => ?_)) | (refine gG_dec (fun _ => ?_) (fun _ => ?_)) | (refine gPG_dec (fun _ => ?_) (fun _ => ?_)) | (refine gI_var (fun _ => ?_) (fun _ => ?_)) | (refine gG_var (fun _ => ?_) (fun _ => ?_)) | (refine gPG_var (fun _ => ?_) (fun _ => ?_)))
  all_goals try (exfalso; omega)
  refine g_while (fun m fr st => ∃ k : Nat, m = N - k ∧ k ≤ N ∧ fr = [(0, .sl 3 l.length (l.map iD)), (5, .sc (.bool true)), (8, .gr 2 1 X.length), (10, .gr 2 2 Y.length), (12, .gr 2 3 Z.length), (14, .sc (.int .i64 k))] ∧ st = ⟨[(3, .gro 3 1 false (Z.map iD)), (2, .gro 3 1 false (Y.map iD)), (1, .gro 3 1 false (X.map iD)), (0, .gro 3 1 true (R.map iD))], 4, 0⟩) N ?_ ⟨_, _, .refl _ _, 0, ?_⟩ ?_
  · rw [hC, callP_rounds]; unfold many; omega
  · exact ⟨by omega, by omega, rfl, rfl⟩
  rintro m fr st ⟨k, rfl, hk, rfl, rfl⟩
  by_cases hlt : k < N
  · have g1 := fX k hlt
    have g2 := fY k hlt
    have g3 := fC k hlt
    have hcl := cone_lt (i := k) (n := l.length) true (by omega)
    have hcp := fun st => (cone_p w 7 k l.length true (by omega) (by omega) (by omega)).of hC rfl st rfl
    generalize cone k l.length true = c at *
    obtain ⟨j, hj⟩ : ∃ j : Nat, j = N - 1 - k := ⟨_, rfl⟩
    have hji : (N : Int) - 1 - k = j := by omega
    rw [← hj] at g1 g2
    repeat' (first | (simp (disch := first | omega | assumption | (refine @id ((_ : Bool) = _) ?_; exact id (by with_unfolding_all rfl)) | (exact Or.inl rfl) | (exact Or.inl trivial) | (exact okL_map _ (fun _ => rfl) _) | (simp only [VVlen] <;> omega) | fail) only [VV0, VV1, VV2, VV3, VV4, VV5, VV6, VV7, VV8, mkFnV, vargs, slotsL, opdsA, Nat.reduceEqDiff, Nat.reduceLT, Nat.reduceAdd, Nat.reduceBEq, Int.reduceAdd, Int.reduceSub, Int.reduceLT, Int.reduceLE, Int.reduceEq, Int.reduceNeg, ↓reduceIte, reduceCtorEq, scL, scD, expand, List.replicate, c5l1, iD_dv, hji, hXl, hYl]) | (refine gC_drawW ?_) | (refine gI_dec (fun _ => ?_) (fun _ => ?_)) | (refine gG_dec (fun _ => ?_) (fun _ => ?_)) | (refine gPG_dec (fun _ => ?_) (fun _ => ?_)) | (refine gI_var (fun _ => ?_) (fun _ => ?_)) | (refine gG_var (fun _ => ?_) (fun _ => ?_)) | (refine gPG_var (fun _ => ?_) (fun _ => ?_)))
    all_goals try (exfalso; omega)
    refine call0_of (hcp _) ?_
    repeat' (first | (simp (disch := first | omega | assumption | (refine @id ((_ : Bool) = _) ?_; exact id (by with_unfolding_all rfl)) | (exact Or.inl rfl) | (exact Or.inl trivial) | (exact okL_map _ (fun _ => rfl) _) | (simp only [VVlen] <;> omega) | fail) only [VV0, VV1, VV2, VV3, VV4, VV5, VV6, VV7, VV8, mkFnV, vargs, slotsL, opdsA, Nat.reduceEqDiff, Nat.reduceLT, Nat.reduceAdd, Nat.reduceBEq, Int.reduceAdd, Int.reduceSub, Int.reduceLT, Int.reduceLE, Int.reduceEq, Int.reduceNeg, ↓reduceIte, reduceCtorEq, scL, scD, expand, List.replicate, iD_dv, g1, g2, g3]) | (refine gC_drawW ?_) | (refine gI_dec (fun _ => ?_) (fun _ => ?_)) | (refine gG_dec (fun _ => ?_) (fun _ => ?_)) | (refine gPG_dec (fun _ => ?_) (fun _ => ?_)) | (refine gI_var (fun _ => ?_) (fun _ => ?_)) | (refine gG_var (fun _ => ?_) (fun _ => ?_)) | (refine gPG_var (fun _ => ?_) (fun _ => ?_)))
    all_goals try (exfalso; omega)
    exact ⟨_, _, _, by omega, .refl _ _, k + 1, rfl, by omega, rfl, rfl⟩
  have : k = N := by omega
  subst this
  repeat' (first | (simp (disch := first | omega | assumption | (refine @id ((_ : Bool) = _) ?_; exact id (by with_unfolding_all rfl)) | (exact Or.inl rfl) | (exact Or.inl trivial) | (exact okL_map _ (fun _ => rfl) _) | (simp only [VVlen] <;> omega) | fail) only [VV0, VV1, VV2, VV3, VV4, VV5, VV6, VV7, VV8, mkFnV, vargs, slotsL, opdsA, Nat.reduceEqDiff, Nat.reduceLT, Nat.reduceAdd, Nat.reduceBEq, Int.reduceAdd, Int.reduceSub, Int.reduceLT, Int.reduceLE, Int.reduceEq, Int.reduceNeg, ↓reduceIte, reduceCtorEq, scL, scD, expand, List.replicate, c5l1, iD_dv, hXl, hYl]) | (refine gC_drawW ?_) | (refine gI_dec (fun _ => ?_) (fun _ => ?_)) | (refine gG_dec (fun _ => ?_) (fun _ => ?_)) | (refine gPG_dec (fun _ => ?_) (fun _ => ?_)) | (refine gI_var (fun _ => ?_) (fun _ => ?_)) | (refine gG_var (fun _ => ?_) (fun _ => ?_)) | (refine gPG_var (fun _ => ?_) (fun _ => ?_)))
  all_goals try (exfalso; omega)
  refine g_while (fun m fr st => ∃ k : Nat, m = M - k ∧ k ≤ M ∧ fr = [(0, .sl 3 l.length (l.map iD)), (5, .sc (.bool true)), (12, .gr 2 3 Z.length), (15, .sc (.int .i64 k))] ∧ st = ⟨[(3, .gro 3 1 false (Z.map iD)), (2, .gro 3 1 false (Y.map iD)), (1, .gro 3 1 false (X.map iD)), (0, .gro 3 1 true (R.map iD))], 4, 0⟩) M ?_ ⟨_, _, .refl _ _, 0, ?_⟩ ?_
  · rw [hC, callP_rounds]; unfold many; omega
  · exact ⟨by omega, by omega, rfl, rfl⟩
  rintro m fr st ⟨j, rfl, hj, rfl, rfl⟩
  by_cases hjt : j < M
  · have g4 := fZ j hjt
    have hml := Nat.mod_lt j (show 0 < l.length by omega)
    have hmi : (j : Int) % (l.length : Int) = ((j % l.length : Nat) : Int) := by simp
    generalize j % l.length = c at *
    repeat' (first | (simp (disch := first | omega | assumption | (refine @id ((_ : Bool) = _) ?_; exact id (by with_unfolding_all rfl)) | (exact Or.inl rfl) | (exact Or.inl trivial) | (exact okL_map _ (fun _ => rfl) _) | (simp only [VVlen] <;> omega) | fail) only [VV0, VV1, VV2, VV3, VV4, VV5, VV6, VV7, VV8, mkFnV, vargs, slotsL, opdsA, Nat.reduceEqDiff, Nat.reduceLT, Nat.reduceAdd, Nat.reduceBEq, Int.reduceAdd, Int.reduceSub, Int.reduceLT, Int.reduceLE, Int.reduceEq, Int.reduceNeg, ↓reduceIte, reduceCtorEq, scL, scD, expand, List.replicate, c5l0, iD_dv, hmi, hZl, g4]) | (refine gC_drawW ?_) | (refine gI_dec (fun _ => ?_) (fun _ => ?_)) | (refine gG_dec (fun _ => ?_) (fun _ => ?_)) | (refine gPG_dec (fun _ => ?_) (fun _ => ?_)) | (refine gI_var (fun _ => ?_) (fun _ => ?_)) | (refine gG_var (fun _ => ?_) (fun _ => ?_)) | (refine gPG_var (fun _ => ?_) (fun _ => ?_)))
    all_goals try (exfalso; omega)
    exact ⟨_, _, _, by omega, .refl _ _, j + 1, rfl, by omega, rfl, rfl⟩
  have : j = M := by omega
  subst this
  repeat' (first | (simp (disch := first | omega | assumption | (refine @id ((_ : Bool) = _) ?_; exact id (by with_unfolding_all rfl)) | (exact Or.inl rfl) | (exact Or.inl trivial) | (exact okL_map _ (fun _ => rfl) _) | (simp only [VVlen] <;> omega) | fail) only [VV0, VV1, VV2, VV3, VV4, VV5, VV6, VV7, VV8, mkFnV, vargs, slotsL, opdsA, Nat.reduceEqDiff, Nat.reduceLT, Nat.reduceAdd, Nat.reduceBEq, Int.reduceAdd, Int.reduceSub, Int.reduceLT, Int.reduceLE, Int.reduceEq, Int.reduceNeg, ↓reduceIte, reduceCtorEq, scL, scD, expand, List.replicate, c5l0, iD_dv, hZl]) | (refine gC_drawW ?_) | (refine gI_dec (fun _ => ?_) (fun _ => ?_)) | (refine gG_dec (fun _ => ?_) (fun _ => ?_)) | (refine gPG_dec (fun _ => ?_) (fun _ => ?_)) | (refine gI_var (fun _ => ?_) (fun _ => ?_)) | (refine gG_var (fun _ => ?_) (fun _ => ?_)) | (refine gPG_var (fun _ => ?_) (fun _ => ?_)))
  all_goals try (exfalso; omega)
  exact weak_flat rfl h0 rfl
end Go.Proofs.YtgglaaldlegckaaDoor
namespace Go.Proofs.YtgglaaldlegckaaDoor
open Go Go.Itp
open Go.ChangeShapes Go.WideShapes Go.ChangeAt Go.RowKit
set_option linter.unusedVariables false
set_option maxRecDepth 100000
set_option maxHeartbeats 4000000
theorem reach_lt : reachBytes ≤ 140737488351232 := by decide
theorem cellsI : Tryd.prog.cellsOf 3 = 1 := by kernel_rfl
theorem bytesI : Tryd.prog.bytesOf 3 = 8 := by kernel_rfl
def listed : List (String × DataW Unit) := [("math/bits.deBruijn32tab", Rows.laid_math_bits_deBruijn32tab), ("math/bits.deBruijn64tab", Rows.laid_math_bits_deBruijn64tab), ("internal/strconv.uint64pow10", Rows.laid_internal_strconv_uint64pow10)]
theorem listed_met (os : Os) (args : Array Value) : laidMetH Tryd.prog listed ((World.laidAll Tryd.prog os listed).forCall (fun _ _ => 0) ⟨#[], args, []⟩).memory := by
  rw [MakeChecks.laidMetH_plain _ _ _ (by kernel_rfl)]
  exact laidMet_laidAll _ (by kernel_rfl) (by kernel_rfl)
theorem listed_shaped (os : Os) : (World.laidAll Tryd.prog os listed).Shaped Tryd.prog := World.shaped_of_ZipB (by kernel_rfl) (by kernel_rfl)
theorem stand_ins {l : List TypeId} {t : TypeId} (hall : (l.all fun u => !Tryd.prog.wantsStandIn u) = true) (h : t ∈ l) : Tryd.prog.wantsStandIn t = false := by
  have := List.all_eq_true.1 hall t h
  simpa using this
theorem turned_lifted (os : Os) (started : os.Started) (H : Type) (enc : TypeId × Value → H) :
    ReturnsInHanded {} Tryd.checked os 5 .any (fun w args => (Rows.warpTurnedSpec.pre enc Tryd.prog Tryd.f5 [] false w args ∧ laidMetH Tryd.prog listed w) ∧ sizedMet enc Tryd.prog Tryd.f5 (OpenSpec.ofChange Rows.warpTurnedSpec) false w args)
      (Rows.warpTurnedSpec.post enc Tryd.prog Tryd.f5 false true false false) := by
  refine returnsInHanded_of_change_and (C := Tryd.checked) (X := fun w _ => laidMetH Tryd.prog listed w) (fun _ _ _ hh h => h.of_heap hh) own started (by kernel_rfl) Tryd.func5
    (ChangeSpec.witness_shaped (enc := enc) (C := Tryd.checked) (os := os) (X := fun w _ => laidMetH Tryd.prog listed w) false (World.laidAll Tryd.prog os listed) #[.slice none 0 0, .int .i64 0] 8 (World.laidAll_os _ _ _) (listed_shaped os) (by kernel_rfl) (by kernel_rfl) (by kernel_rfl) (listed_met os _)) ?_
  intro W base args ds gs before hval0 hW _ hsz0 hL _
  have hval : ∀ (j : Nat) t v, Tryd.f5.params[j]? = some t → args[j]? = some v → Value.okWide Tryd.prog W .any base t v := hval0
  have hW' := hW
  obtain ⟨p, q, hA0, hV, rfl, hfz, hnd⟩ := hW
  have hA : DataW.TrodAll enc Tryd.prog W 0 (fun _ => true) true Tryd.f5.params.toList args.toList ds p := hA0
  have hsz : (DataW.weightsEach Tryd.prog (Tryd.f5.params.toList ++ Rows.warpTurnedSpec.plain.varTypes Tryd.prog) (ds ++ gs)).all (· ≤ reachBytes) = true := hsz0
  rw [Tryd.params5] at hA hval hsz
  obtain ⟨v0, vs0, d0, ds0, p0, q0, hargs, rfl, rfl, h0, r0⟩ := trodAll_cons hA
  obtain ⟨v1, vs1, d1, ds1, p1, q1, rfl, rfl, rfl, h1, r1⟩ := trodAll_cons r0
  obtain ⟨rfl, rfl, rfl⟩ := trodAll_nil r1
  obtain rfl : args = #[v0, v1] := by cases args; simp_all
  have hr := reach_lt
  obtain ⟨l0, hl0, hl00, hli0, hlw0, hlr0⟩ := rd_ints Tryd.underlying22 Tryd.underlying3 cellsI (by rw [bytesI]; decide) (hval 0 22 v0 rfl rfl) h0 (weights_at (j := 0) hsz rfl rfl)
  rw [bytesI] at hlr0
  have hv0 : VRep (wOld (oldOf W)) (.sl 3 l0.length (l0.map iD)) v0 := vrep_old iD (hl0 []) hl00 (slice_v Tryd.underlying22 (hval 0 22 v0 rfl rfl) h0) (fun z _ => by simp only [iD, DRep, scOK, and_self])
  obtain ⟨x1, rfl, hx1⟩ := open_num Tryd.underlying3 (hval 1 3 v1 rfl rfl) h1
  obtain ⟨s', hbody⟩ := law_v (old := oldOf W) (rounds := many) (fns := fns) (prims := orElseP (primT known) (primsOf prims0)) (n := 8) (af := c5) (xs := [.sl 3 l0.length (l0.map iD), .sc (.int .i64 x1)]) (xsI := [v0, .int .i64 x1]) (x := .bool true) (Nat.le_of_ble_eq_true rfl)
    (by simp only [VRepL]; exact ⟨_, _, rfl, hv0, _, _, rfl, .mksc rfl, rfl⟩) fun C hC hn => turned_g W l0 x1 (by omega) hC hn
  have hfn : fns 5 = some c5 := rfl
  have hrv : ids 0 (.bool true) = [] := rfl
  refine (law_of (f := 5) (af := c5) hfn (xs := [v0, .int .i64 x1]) (by simp only [idsL_cons, hli0]; rfl) _ hbody hrv).mono fun e W' ⟨he, hbe⟩ => ?_
  exact ⟨_, he, law_post hW' rfl rfl (by kernel_rfl) (by kernel_rfl) Tryd.underlying4 hbe⟩
theorem turned_over : Rows.WarpTurnedSaid :=
  OpenClaim.holds_of_wide 5 Tryd.f5 rfl rfl rfl rfl rfl rfl rfl ⟨rfl, rfl, rfl, rfl, rfl⟩ rfl rfl rfl rfl rfl (by kernel_rfl) Tryd.func5 (by kernel_rfl)
    (of_decide_eq_true (by kernel_rfl)) (by unfold Func.isWrapper; first | (rw [if_pos (by decide +kernel)]; kernel_rfl) | (rw [if_neg (by decide +kernel)]; exact ⟨rfl, rfl⟩))
    (fun os started H enc _ => turned_lifted os started H enc)
theorem turned_holds : Rows.WarpTurnedCardSaid :=
  Claim7.holds_tied_plain_at .later [] [.data, .data, .data] true _ true
    turned_over (fun _ h => by cases h) (by kernel_rfl) (fun _ h => by cases h) warpTurned_row_tie rfl ⟨rfl, rfl⟩ (by kernel_rfl) rfl
    (fun f fn hf hfn => by
      obtain rfl : f = 5 := Option.some.inj ((show Tryd.prog.funcNamed "raddle/raddlelaw22.WarpTurned" = some 5 by kernel_rfl).symm.trans hf) |>.symm
      obtain rfl : fn = Tryd.f5 := (Option.some.inj (Tryd.func5.symm.trans hfn)).symm
      exact ⟨by kernel_rfl, fun j t ht => stand_ins (l := [22, 3]) (by kernel_rfl) (by rw [Tryd.params5] at ht; simpa using Array.mem_of_getElem? ht)⟩)
    (by kernel_rfl)
#print axioms turned_holds
end Go.Proofs.YtgglaaldlegckaaDoor
