/- What is proved: the law ThreadMakes returns true for every input. Conditions: none.
   Texts: C02M, W02a, W02b, W02c, W02d, W02e.
-/
import Derived.Test.YtkjkiodoighgnaaPart4
import Derived.Test.YtkjkiodoighgnaaProg
/- The seat's functions as the interpreter runs them: written by a program out of the loaded form, and shown equal to it below. -/
namespace Go.Proofs.Ytkjkiodoighgnaa
open Go Go.Itp
set_option maxRecDepth 100000
/- raddle/raddlelaw02.ThreadMakes -/
def c4l0 : AC :=
  .seq (.seq (.ops [⟨(some 161), none, .mov (.tmp 31)⟩,
          ⟨(some 162), none, .mov (.tmp 26)⟩,
          ⟨(some 163), none, .len false (.tmp 162)⟩,
          ⟨(some 164), none, .bin .lss (.tmp 161) (.tmp 163)⟩] [0, 9, 26, 31, 164])
      (.cond (.tmp 164)
        (.skip)
        (.exit 2)))
      (.seq (.block 3
        (.ops [⟨(some 167), none, .mov (.tmp 26)⟩,
            ⟨(some 168), none, .mov (.tmp 31)⟩,
            ⟨(some 169), none, .idxS 1 (.tmp 167) (.tmp 168)⟩,
            ⟨none, none, .store 1 (.tmp 169) (.const (.int .i64 (-5)))⟩] [0, 9, 26, 31]))
      (.ops [⟨(some 165), none, .mov (.tmp 31)⟩,
          ⟨(some 166), none, .bin .add (.tmp 165) (.const (.int .i64 1))⟩,
          ⟨(some 31), none, .mov (.tmp 166)⟩] [0, 9, 26, 31]))
def c4l1 : AC :=
  .seq (.seq (.ops [⟨(some 152), none, .mov (.tmp 30)⟩,
          ⟨(some 153), none, .mov (.tmp 18)⟩,
          ⟨(some 154), none, .len false (.tmp 153)⟩,
          ⟨(some 155), none, .bin .lss (.tmp 152) (.tmp 154)⟩] [0, 9, 18, 26, 30, 155])
      (.cond (.tmp 155)
        (.skip)
        (.exit 0)))
      (.seq (.block 1
        (.ops [⟨(some 158), none, .mov (.tmp 18)⟩,
            ⟨(some 159), none, .mov (.tmp 30)⟩,
            ⟨(some 160), none, .idxS 1 (.tmp 158) (.tmp 159)⟩,
            ⟨none, none, .store 1 (.tmp 160) (.const (.int .i64 (-5)))⟩] [0, 9, 18, 26, 30]))
      (.ops [⟨(some 156), none, .mov (.tmp 30)⟩,
          ⟨(some 157), none, .bin .add (.tmp 156) (.const (.int .i64 1))⟩,
          ⟨(some 30), none, .mov (.tmp 157)⟩] [0, 9, 18, 26, 30]))
def c4 : AFun := ⟨
  .seq (.ops [⟨(some 8), none, .mov (.const (.bool false))⟩] [0, 1, 2, 3])
  (.seq (.seq (.ops [⟨(some 32), none, .mov (.tmp 0)⟩,
      ⟨(some 33), none, .callF 5 [(.tmp 32)]⟩,
      ⟨(some 34), none, .mov (.tmp 33)⟩,
      ⟨(some 35), (some (34, false)), .mov (.tmp 1)⟩,
      ⟨(some 36), (some (34, false)), .callF 5 [(.tmp 35)]⟩,
      ⟨(some 37), none, .pick (.tmp 34) (.const (.bool true)) (.tmp 36)⟩] [0, 1, 2, 3, 37])
  (.cond (.tmp 37)
    (.seq (.ops [⟨(some 8), none, .mov (.const (.bool true))⟩] [8])
    (.ret))
    (.skip)))
  (.seq (.ops [⟨(some 38), none, .mkRow 3 1 0 [(.int .i64 0)] []⟩,
      ⟨(some 39), none, .mov (.tmp 0)⟩,
      ⟨(some 40), none, .app 3 1 8 (.tmp 38) (.tmp 39)⟩,
      ⟨(some 9), none, .mov (.tmp 40)⟩] [0, 1, 2, 3, 9])
  (.seq (.ops [⟨(some 42), none, .mov (.tmp 2)⟩,
      ⟨(some 43), none, .mov (.tmp 3)⟩,
      ⟨(some 44), none, .callF 11 [(.tmp 42), (.tmp 43)]⟩,
      ⟨(some 41), none, .mov (.tmp 44)⟩,
      ⟨(some 45), none, .ext (.tmp 41) 0⟩,
      ⟨(some 46), none, .ext (.tmp 41) 1⟩,
      ⟨(some 10), none, .mov (.tmp 45)⟩,
      ⟨(some 11), none, .mov (.tmp 46)⟩] [0, 1, 2, 3, 9, 10, 11])
  (.seq (.ops [⟨(some 48), none, .mov (.tmp 2)⟩,
      ⟨(some 49), none, .mov (.tmp 3)⟩,
      ⟨(some 50), none, .callF 12 [(.tmp 48), (.tmp 49)]⟩,
      ⟨(some 47), none, .mov (.tmp 50)⟩,
      ⟨(some 51), none, .ext (.tmp 47) 0⟩,
      ⟨(some 52), none, .ext (.tmp 47) 1⟩,
      ⟨(some 12), none, .mov (.tmp 51)⟩,
      ⟨(some 13), none, .mov (.tmp 52)⟩] [0, 1, 2, 3, 9, 10, 11, 12, 13])
  (.seq (.ops [⟨(some 54), none, .mov (.tmp 2)⟩,
      ⟨(some 55), none, .mov (.tmp 3)⟩,
      ⟨(some 56), none, .callF 13 [(.tmp 54), (.tmp 55)]⟩,
      ⟨(some 53), none, .mov (.tmp 56)⟩,
      ⟨(some 57), none, .ext (.tmp 53) 0⟩,
      ⟨(some 58), none, .ext (.tmp 53) 1⟩,
      ⟨(some 14), none, .mov (.tmp 57)⟩,
      ⟨(some 15), none, .mov (.tmp 58)⟩] [0, 1, 2, 3, 9, 10, 11, 12, 13, 14, 15])
  (.seq (.ops [⟨(some 60), none, .mov (.tmp 2)⟩,
      ⟨(some 61), none, .mov (.tmp 3)⟩,
      ⟨(some 62), none, .callF 14 [(.tmp 60), (.tmp 61)]⟩,
      ⟨(some 59), none, .mov (.tmp 62)⟩,
      ⟨(some 63), none, .ext (.tmp 59) 0⟩,
      ⟨(some 64), none, .ext (.tmp 59) 1⟩,
      ⟨(some 16), none, .mov (.tmp 63)⟩,
      ⟨(some 17), none, .mov (.tmp 64)⟩] [0, 1, 2, 9, 10, 11, 12, 13, 14, 15, 16, 17])
  (.seq (.ops [⟨(some 66), none, .mov (.tmp 0)⟩,
      ⟨(some 67), none, .mov (.tmp 1)⟩,
      ⟨(some 68), none, .callF 15 [(.tmp 66), (.tmp 67)]⟩,
      ⟨(some 65), none, .mov (.tmp 68)⟩,
      ⟨(some 69), none, .ext (.tmp 65) 0⟩,
      ⟨(some 70), none, .ext (.tmp 65) 1⟩,
      ⟨(some 18), none, .mov (.tmp 69)⟩,
      ⟨(some 19), none, .mov (.tmp 70)⟩] [0, 1, 2, 9, 10, 11, 12, 13, 14, 15, 16, 17, 18, 19])
  (.seq (.ops [⟨(some 72), none, .mov (.tmp 0)⟩,
      ⟨(some 73), none, .mov (.tmp 1)⟩,
      ⟨(some 74), none, .callF 16 [(.tmp 72), (.tmp 73)]⟩,
      ⟨(some 71), none, .mov (.tmp 74)⟩,
      ⟨(some 75), none, .ext (.tmp 71) 0⟩,
      ⟨(some 76), none, .ext (.tmp 71) 1⟩,
      ⟨(some 20), none, .mov (.tmp 75)⟩,
      ⟨(some 21), none, .mov (.tmp 76)⟩] [0, 2, 9, 10, 11, 12, 13, 14, 15, 16, 17, 18, 19, 20, 21])
  (.seq (.ops [⟨(some 78), none, .mov (.tmp 0)⟩,
      ⟨(some 79), none, .mov (.tmp 2)⟩,
      ⟨(some 80), none, .callF 17 [(.tmp 78), (.tmp 79)]⟩,
      ⟨(some 77), none, .mov (.tmp 80)⟩,
      ⟨(some 81), none, .ext (.tmp 77) 0⟩,
      ⟨(some 82), none, .ext (.tmp 77) 1⟩,
      ⟨(some 22), none, .mov (.tmp 81)⟩,
      ⟨(some 23), none, .mov (.tmp 82)⟩] [0, 2, 9, 10, 11, 12, 13, 14, 15, 16, 17, 18, 19, 20, 21, 22, 23])
  (.seq (.ops [⟨(some 84), none, .mov (.tmp 0)⟩,
      ⟨(some 85), none, .mov (.tmp 2)⟩,
      ⟨(some 86), none, .callF 18 [(.tmp 84), (.tmp 85)]⟩,
      ⟨(some 83), none, .mov (.tmp 86)⟩,
      ⟨(some 87), none, .ext (.tmp 83) 0⟩,
      ⟨(some 88), none, .ext (.tmp 83) 1⟩,
      ⟨(some 24), none, .mov (.tmp 87)⟩,
      ⟨(some 25), none, .mov (.tmp 88)⟩] [0, 9, 10, 11, 12, 13, 14, 15, 16, 17, 18, 19, 20, 21, 22, 23, 24, 25])
  (.seq (.ops [⟨(some 90), none, .mov (.tmp 0)⟩,
      ⟨(some 91), none, .callF 19 [(.tmp 90)]⟩,
      ⟨(some 89), none, .mov (.tmp 91)⟩,
      ⟨(some 92), none, .ext (.tmp 89) 0⟩,
      ⟨(some 93), none, .ext (.tmp 89) 1⟩,
      ⟨(some 26), none, .mov (.tmp 92)⟩,
      ⟨(some 27), none, .mov (.tmp 93)⟩] [0, 9, 10, 11, 12, 13, 14, 15, 16, 17, 18, 19, 20, 21, 22, 23, 24, 25, 26, 27])
  (.seq (.ops [⟨(some 95), none, .mov (.tmp 0)⟩,
      ⟨(some 96), none, .callF 20 [(.tmp 95)]⟩,
      ⟨(some 94), none, .mov (.tmp 96)⟩,
      ⟨(some 97), none, .ext (.tmp 94) 0⟩,
      ⟨(some 98), none, .ext (.tmp 94) 1⟩,
      ⟨(some 28), none, .mov (.tmp 97)⟩,
      ⟨(some 29), none, .mov (.tmp 98)⟩] [0, 9, 10, 11, 12, 13, 14, 15, 16, 17, 18, 19, 20, 21, 22, 23, 24, 25, 26, 27, 28, 29])
  (.seq (.seq (.ops [⟨(some 99), none, .mov (.tmp 10)⟩,
      ⟨(some 100), none, .mov (.tmp 12)⟩,
      ⟨(some 101), none, .callF 10 [(.tmp 99), (.tmp 100)]⟩,
      ⟨(some 102), none, .un .not (.tmp 101)⟩,
      ⟨(some 103), none, .mov (.tmp 102)⟩,
      ⟨(some 104), (some (103, false)), .mov (.tmp 11)⟩,
      ⟨(some 105), (some (103, false)), .mov (.tmp 13)⟩,
      ⟨(some 106), (some (103, false)), .bin .neq (.tmp 104) (.tmp 105)⟩,
      ⟨(some 107), none, .pick (.tmp 103) (.const (.bool true)) (.tmp 106)⟩,
      ⟨(some 108), none, .mov (.tmp 107)⟩,
      ⟨(some 109), (some (108, false)), .mov (.tmp 14)⟩,
      ⟨(some 110), (some (108, false)), .mov (.tmp 16)⟩,
      ⟨(some 111), (some (108, false)), .callF 10 [(.tmp 109), (.tmp 110)]⟩,
      ⟨(some 112), (some (108, false)), .un .not (.tmp 111)⟩,
      ⟨(some 113), none, .pick (.tmp 108) (.const (.bool true)) (.tmp 112)⟩,
      ⟨(some 114), none, .mov (.tmp 113)⟩,
      ⟨(some 115), (some (114, false)), .mov (.tmp 15)⟩,
      ⟨(some 116), (some (114, false)), .mov (.tmp 17)⟩,
      ⟨(some 117), (some (114, false)), .bin .neq (.tmp 115) (.tmp 116)⟩,
      ⟨(some 118), none, .pick (.tmp 114) (.const (.bool true)) (.tmp 117)⟩,
      ⟨(some 119), none, .mov (.tmp 118)⟩,
      ⟨(some 120), (some (119, false)), .mov (.tmp 18)⟩,
      ⟨(some 121), (some (119, false)), .mov (.tmp 20)⟩,
      ⟨(some 122), (some (119, false)), .callF 10 [(.tmp 120), (.tmp 121)]⟩,
      ⟨(some 123), (some (119, false)), .un .not (.tmp 122)⟩,
      ⟨(some 124), none, .pick (.tmp 119) (.const (.bool true)) (.tmp 123)⟩,
      ⟨(some 125), none, .mov (.tmp 124)⟩,
      ⟨(some 126), (some (125, false)), .mov (.tmp 19)⟩,
      ⟨(some 127), (some (125, false)), .mov (.tmp 21)⟩,
      ⟨(some 128), (some (125, false)), .bin .neq (.tmp 126) (.tmp 127)⟩,
      ⟨(some 129), none, .pick (.tmp 125) (.const (.bool true)) (.tmp 128)⟩,
      ⟨(some 130), none, .mov (.tmp 129)⟩,
      ⟨(some 131), (some (130, false)), .mov (.tmp 22)⟩,
      ⟨(some 132), (some (130, false)), .mov (.tmp 24)⟩,
      ⟨(some 133), (some (130, false)), .callF 10 [(.tmp 131), (.tmp 132)]⟩,
      ⟨(some 134), (some (130, false)), .un .not (.tmp 133)⟩,
      ⟨(some 135), none, .pick (.tmp 130) (.const (.bool true)) (.tmp 134)⟩,
      ⟨(some 136), none, .mov (.tmp 135)⟩,
      ⟨(some 137), (some (136, false)), .mov (.tmp 23)⟩,
      ⟨(some 138), (some (136, false)), .mov (.tmp 25)⟩,
      ⟨(some 139), (some (136, false)), .bin .neq (.tmp 137) (.tmp 138)⟩,
      ⟨(some 140), none, .pick (.tmp 136) (.const (.bool true)) (.tmp 139)⟩,
      ⟨(some 141), none, .mov (.tmp 140)⟩,
      ⟨(some 142), (some (141, false)), .mov (.tmp 26)⟩,
      ⟨(some 143), (some (141, false)), .mov (.tmp 28)⟩,
      ⟨(some 144), (some (141, false)), .callF 10 [(.tmp 142), (.tmp 143)]⟩,
      ⟨(some 145), (some (141, false)), .un .not (.tmp 144)⟩,
      ⟨(some 146), none, .pick (.tmp 141) (.const (.bool true)) (.tmp 145)⟩,
      ⟨(some 147), none, .mov (.tmp 146)⟩,
      ⟨(some 148), (some (147, false)), .mov (.tmp 27)⟩,
      ⟨(some 149), (some (147, false)), .mov (.tmp 29)⟩,
      ⟨(some 150), (some (147, false)), .bin .neq (.tmp 148) (.tmp 149)⟩,
      ⟨(some 151), none, .pick (.tmp 147) (.const (.bool true)) (.tmp 150)⟩] [0, 9, 18, 26, 151])
  (.cond (.tmp 151)
    (.seq (.ops [⟨(some 8), none, .mov (.const (.bool false))⟩] [8])
    (.ret))
    (.skip)))
  (.seq (.seq (.ops [⟨(some 30), none, .mov (.const (.int .i64 0))⟩] [0, 9, 18, 26, 30])
  (.block 0
    (.loop [0, 9, 18, 26, 30]
      c4l1)))
  (.seq (.seq (.ops [⟨(some 31), none, .mov (.const (.int .i64 0))⟩] [0, 9, 26, 31])
  (.block 2
    (.loop [0, 9, 26, 31]
      c4l0)))
  (.seq (.ops [⟨(some 170), none, .mov (.tmp 0)⟩,
      ⟨(some 171), none, .mov (.tmp 9)⟩,
      ⟨(some 172), none, .callF 10 [(.tmp 170), (.tmp 171)]⟩,
      ⟨(some 8), none, .mov (.tmp 172)⟩] [8])
  (.ret))))))))))))))))),
  173, [(8, none)], true⟩
theorem ok4 : FunOK Try.prog 4 c4 := ⟨⟨Try.f4, _, c4.code, Try.func4, rfl, by kernel_rfl, rfl, by kernel_rfl, by kernel_rfl⟩⟩
/- raddle/raddleref02.Great -/
def c5 : AFun := ⟨
  .seq (.ops [⟨(some 2), none, .mov (.const (.bool false))⟩] [0])
  (.seq (.ops [⟨(some 3), none, .mov (.tmp 0)⟩,
      ⟨(some 4), none, .len false (.tmp 3)⟩,
      ⟨(some 5), none, .bin .gtr (.tmp 4) (.const (.int .i64 60))⟩,
      ⟨(some 6), none, .mov (.tmp 5)⟩,
      ⟨(some 7), (some (6, true)), .mov (.tmp 0)⟩,
      ⟨(some 8), (some (6, true)), .len false (.tmp 7)⟩,
      ⟨(some 9), (some (6, true)), .bin .leq (.tmp 8) (.const (.int .i64 400))⟩,
      ⟨(some 10), none, .pick (.tmp 6) (.tmp 9) (.const (.bool false))⟩,
      ⟨(some 11), none, .mov (.tmp 10)⟩,
      ⟨(some 12), (some (11, false)), .mov (.tmp 0)⟩,
      ⟨(some 13), (some (11, false)), .len false (.tmp 12)⟩,
      ⟨(some 14), (some (11, false)), .bin .gtr (.tmp 13) (.const (.int .i64 420))⟩,
      ⟨(some 15), none, .pick (.tmp 11) (.const (.bool true)) (.tmp 14)⟩,
      ⟨(some 2), none, .mov (.tmp 15)⟩] [2])
  (.ret)),
  16, [(2, none)], true⟩
theorem ok5 : FunOK Try.prog 5 c5 := ⟨⟨Try.f5, _, c5.code, Try.func5, rfl, by kernel_rfl, rfl, by kernel_rfl, by kernel_rfl⟩⟩
/- raddle/raddleref02.Same -/
def c10l0 : AC :=
  .seq (.seq (.ops [⟨(some 11), none, .mov (.tmp 5)⟩,
          ⟨(some 12), none, .mov (.tmp 0)⟩,
          ⟨(some 13), none, .len false (.tmp 12)⟩,
          ⟨(some 14), none, .bin .lss (.tmp 11) (.tmp 13)⟩] [0, 1, 5, 14])
      (.cond (.tmp 14)
        (.skip)
        (.exit 0)))
      (.seq (.block 1
        (.seq (.draw [⟨(some 17), none, .mov (.tmp 0)⟩,
            ⟨(some 18), none, .mov (.tmp 5)⟩,
            ⟨(some 19), none, .idxS 1 (.tmp 17) (.tmp 18)⟩,
            ⟨(some 20), none, .load none (.tmp 19)⟩,
            ⟨(some 21), none, .mov (.tmp 1)⟩,
            ⟨(some 22), none, .mov (.tmp 5)⟩,
            ⟨(some 23), none, .idxS 1 (.tmp 21) (.tmp 22)⟩,
            ⟨(some 24), none, .load none (.tmp 23)⟩] [⟨(some 25), none, .bin .neq (.tmp 20) (.tmp 24)⟩] [[], [], [], [], [], [], [], []] [0, 1, 5, 25])
        (.cond (.tmp 25)
          (.seq (.ops [⟨(some 4), none, .mov (.const (.bool false))⟩] [4])
          (.ret))
          (.skip))))
      (.ops [⟨(some 15), none, .mov (.tmp 5)⟩,
          ⟨(some 16), none, .bin .add (.tmp 15) (.const (.int .i64 1))⟩,
          ⟨(some 5), none, .mov (.tmp 16)⟩] [0, 1, 5]))
def c10 : AFun := ⟨
  .seq (.ops [⟨(some 4), none, .mov (.const (.bool false))⟩] [0, 1])
  (.seq (.seq (.ops [⟨(some 6), none, .mov (.tmp 0)⟩,
      ⟨(some 7), none, .len false (.tmp 6)⟩,
      ⟨(some 8), none, .mov (.tmp 1)⟩,
      ⟨(some 9), none, .len false (.tmp 8)⟩,
      ⟨(some 10), none, .bin .neq (.tmp 7) (.tmp 9)⟩] [0, 1, 10])
  (.cond (.tmp 10)
    (.seq (.ops [⟨(some 4), none, .mov (.const (.bool false))⟩] [4])
    (.ret))
    (.skip)))
  (.seq (.seq (.ops [⟨(some 5), none, .mov (.const (.int .i64 0))⟩] [0, 1, 5])
  (.block 0
    (.loop [0, 1, 5]
      c10l0)))
  (.seq (.ops [⟨(some 4), none, .mov (.const (.bool true))⟩] [4])
  (.ret)))),
  26, [(4, none)], true⟩
theorem ok10 : FunOK Try.prog 10 c10 := ⟨⟨Try.f10, _, c10.code, Try.func10, rfl, by kernel_rfl, rfl, by kernel_rfl, by kernel_rfl⟩⟩
/- raddle/thread.Straight -/
def c11l0 : AC :=
  .seq (.ops [⟨(some 16), none, .bin .lss (.tmp 15) (.tmp 14)⟩] [0, 6, 14, 15, 16])
      (.seq (.cond (.tmp 16)
        (.skip)
        (.exit 0))
      (.seq (.block 1
        (.seq (.ops [⟨(some 17), none, .mov (.tmp 15)⟩,
            ⟨(some 7), none, .mov (.tmp 17)⟩] [0, 6, 7, 14, 15])
        (.ops [⟨(some 18), none, .mov (.tmp 6)⟩,
            ⟨(some 19), none, .mov (.tmp 7)⟩,
            ⟨(some 20), none, .mov (.tmp 7)⟩,
            ⟨(some 21), none, .mov (.tmp 0)⟩,
            ⟨(some 22), none, .bin .rem (.tmp 20) (.tmp 21)⟩,
            ⟨(some 23), none, .idxS 1 (.tmp 18) (.tmp 19)⟩,
            ⟨none, none, .store 1 (.tmp 23) (.tmp 22)⟩] [0, 6, 14, 15])))
      (.ops [⟨(some 24), none, .bin .add (.tmp 15) (.const (.int .i64 1))⟩,
          ⟨(some 15), none, .mov (.tmp 24)⟩] [0, 6, 14, 15])))
def c11 : AFun := ⟨
  .seq (.ops [⟨(some 4), none, .mov (.const (.slice none 0 0))⟩,
      ⟨(some 5), none, .mov (.const (.int .i64 0))⟩] [0, 1])
  (.seq (.seq (.ops [⟨(some 8), none, .mov (.tmp 0)⟩,
      ⟨(some 9), none, .mov (.tmp 1)⟩,
      ⟨(some 10), none, .callF 26 [(.tmp 8), (.tmp 9)]⟩,
      ⟨(some 11), none, .un .not (.tmp 10)⟩] [0, 1, 11])
  (.cond (.tmp 11)
    (.seq (.ops [⟨(some 4), none, .mov (.const (.slice none 0 0))⟩,
        ⟨(some 5), none, .mov (.const (.int .i64 2))⟩] [4, 5])
    (.ret))
    (.skip)))
  (.seq (.ops [⟨(some 12), none, .mov (.tmp 1)⟩,
      ⟨(some 13), none, .mkSlice 3 1 8 [(.int .i64 0)] (.tmp 12) (.tmp 12)⟩,
      ⟨(some 6), none, .mov (.tmp 13)⟩] [0, 1, 6])
  (.seq (.seq (.ops [⟨(some 14), none, .mov (.tmp 1)⟩,
      ⟨(some 15), none, .mov (.const (.int .i64 0))⟩] [0, 6, 14, 15])
  (.block 0
    (.loop [0, 6, 14, 15]
      c11l0)))
  (.seq (.ops [⟨(some 25), none, .mov (.tmp 6)⟩,
      ⟨(some 4), none, .mov (.tmp 25)⟩,
      ⟨(some 5), none, .mov (.const (.int .i64 0))⟩] [4, 5])
  (.ret))))),
  26, [(4, none), (5, none)], true⟩
theorem ok11 : FunOK Try.prog 11 c11 := ⟨⟨Try.f11, _, c11.code, Try.func11, rfl, by kernel_rfl, rfl, by kernel_rfl, by kernel_rfl⟩⟩
/- raddle/raddleref02.Straight -/
def c12l0 : AC :=
  .seq (.seq (.ops [⟨(some 12), none, .mov (.tmp 7)⟩,
          ⟨(some 13), none, .mov (.tmp 1)⟩,
          ⟨(some 14), none, .bin .lss (.tmp 12) (.tmp 13)⟩] [0, 1, 6, 7, 14])
      (.cond (.tmp 14)
        (.skip)
        (.exit 0)))
      (.seq (.block 1
        (.ops [⟨(some 17), none, .mov (.tmp 6)⟩,
            ⟨(some 18), none, .mov (.tmp 7)⟩,
            ⟨(some 19), none, .mov (.tmp 0)⟩,
            ⟨(some 20), none, .bin .rem (.tmp 18) (.tmp 19)⟩,
            ⟨(some 21), none, .mkRow 3 1 1 [(.int .i64 0)] [(0, 1, (.tmp 20))]⟩,
            ⟨(some 22), none, .app 3 1 8 (.tmp 17) (.tmp 21)⟩,
            ⟨(some 6), none, .mov (.tmp 22)⟩] [0, 1, 6, 7]))
      (.ops [⟨(some 15), none, .mov (.tmp 7)⟩,
          ⟨(some 16), none, .bin .add (.tmp 15) (.const (.int .i64 1))⟩,
          ⟨(some 7), none, .mov (.tmp 16)⟩] [0, 1, 6, 7]))
def c12 : AFun := ⟨
  .seq (.ops [⟨(some 4), none, .mov (.const (.slice none 0 0))⟩,
      ⟨(some 5), none, .mov (.const (.int .i64 0))⟩] [0, 1])
  (.seq (.seq (.ops [⟨(some 8), none, .mov (.tmp 0)⟩,
      ⟨(some 9), none, .mov (.tmp 1)⟩,
      ⟨(some 10), none, .callF 27 [(.tmp 8), (.tmp 9)]⟩,
      ⟨(some 11), none, .un .not (.tmp 10)⟩] [0, 1, 11])
  (.cond (.tmp 11)
    (.seq (.ops [⟨(some 4), none, .mov (.const (.slice none 0 0))⟩,
        ⟨(some 5), none, .mov (.const (.int .i64 2))⟩] [4, 5])
    (.ret))
    (.skip)))
  (.seq (.ops [⟨(some 6), none, .mov (.const (.slice none 0 0))⟩] [0, 1, 6])
  (.seq (.seq (.ops [⟨(some 7), none, .mov (.const (.int .i64 0))⟩] [0, 1, 6, 7])
  (.block 0
    (.loop [0, 1, 6, 7]
      c12l0)))
  (.seq (.ops [⟨(some 23), none, .mov (.tmp 6)⟩,
      ⟨(some 4), none, .mov (.tmp 23)⟩,
      ⟨(some 5), none, .mov (.const (.int .i64 0))⟩] [4, 5])
  (.ret))))),
  24, [(4, none), (5, none)], true⟩
theorem ok12 : FunOK Try.prog 12 c12 := ⟨⟨Try.f12, _, c12.code, Try.func12, rfl, by kernel_rfl, rfl, by kernel_rfl, by kernel_rfl⟩⟩
/- raddle/thread.Pointed -/
def c13l0 : AC :=
  .seq (.ops [⟨(some 22), none, .bin .lss (.tmp 21) (.tmp 20)⟩] [6, 7, 20, 21, 22])
      (.seq (.cond (.tmp 22)
        (.skip)
        (.exit 0))
      (.seq (.block 1
        (.seq (.ops [⟨(some 23), none, .mov (.tmp 21)⟩,
            ⟨(some 8), none, .mov (.tmp 23)⟩] [6, 7, 8, 20, 21])
        (.seq (.ops [⟨(some 24), none, .mov (.tmp 8)⟩,
            ⟨(some 25), none, .mov (.tmp 7)⟩,
            ⟨(some 26), none, .bin .rem (.tmp 24) (.tmp 25)⟩,
            ⟨(some 9), none, .mov (.tmp 26)⟩] [6, 7, 8, 9, 20, 21])
        (.ops [⟨(some 27), none, .mov (.tmp 6)⟩,
            ⟨(some 28), none, .mov (.tmp 8)⟩,
            ⟨(some 29), none, .mov (.tmp 9)⟩,
            ⟨(some 30), none, .mov (.tmp 7)⟩,
            ⟨(some 31), none, .mov (.tmp 9)⟩,
            ⟨(some 32), none, .bin .sub (.tmp 30) (.tmp 31)⟩,
            ⟨(some 33), none, .mm false (.tmp 29) (.tmp 32)⟩,
            ⟨(some 34), none, .idxS 1 (.tmp 27) (.tmp 28)⟩,
            ⟨none, none, .store 1 (.tmp 34) (.tmp 33)⟩] [6, 7, 20, 21]))))
      (.ops [⟨(some 35), none, .bin .add (.tmp 21) (.const (.int .i64 1))⟩,
          ⟨(some 21), none, .mov (.tmp 35)⟩] [6, 7, 20, 21])))
def c13 : AFun := ⟨
  .seq (.ops [⟨(some 4), none, .mov (.const (.slice none 0 0))⟩,
      ⟨(some 5), none, .mov (.const (.int .i64 0))⟩] [0, 1])
  (.seq (.seq (.ops [⟨(some 10), none, .mov (.tmp 0)⟩,
      ⟨(some 11), none, .mov (.tmp 1)⟩,
      ⟨(some 12), none, .callF 26 [(.tmp 10), (.tmp 11)]⟩,
      ⟨(some 13), none, .un .not (.tmp 12)⟩] [0, 1, 13])
  (.cond (.tmp 13)
    (.seq (.ops [⟨(some 4), none, .mov (.const (.slice none 0 0))⟩,
        ⟨(some 5), none, .mov (.const (.int .i64 2))⟩] [4, 5])
    (.ret))
    (.skip)))
  (.seq (.ops [⟨(some 14), none, .mov (.tmp 1)⟩,
      ⟨(some 15), none, .mkSlice 3 1 8 [(.int .i64 0)] (.tmp 14) (.tmp 14)⟩,
      ⟨(some 6), none, .mov (.tmp 15)⟩] [0, 1, 6])
  (.seq (.ops [⟨(some 16), none, .mov (.tmp 0)⟩,
      ⟨(some 17), none, .bin .mul (.const (.int .i64 2)) (.tmp 16)⟩,
      ⟨(some 18), none, .bin .sub (.tmp 17) (.const (.int .i64 2))⟩,
      ⟨(some 19), none, .mm true (.const (.int .i64 1)) (.tmp 18)⟩,
      ⟨(some 7), none, .mov (.tmp 19)⟩] [1, 6, 7])
  (.seq (.seq (.ops [⟨(some 20), none, .mov (.tmp 1)⟩,
      ⟨(some 21), none, .mov (.const (.int .i64 0))⟩] [6, 7, 20, 21])
  (.block 0
    (.loop [6, 7, 20, 21]
      c13l0)))
  (.seq (.ops [⟨(some 36), none, .mov (.tmp 6)⟩,
      ⟨(some 4), none, .mov (.tmp 36)⟩,
      ⟨(some 5), none, .mov (.const (.int .i64 0))⟩] [4, 5])
  (.ret)))))),
  37, [(4, none), (5, none)], true⟩
theorem ok13 : FunOK Try.prog 13 c13 := ⟨⟨Try.f13, _, c13.code, Try.func13, rfl, by kernel_rfl, rfl, by kernel_rfl, by kernel_rfl⟩⟩
/- raddle/raddleref02.Pointed -/
def c14l0 : AC :=
  .seq (.seq (.ops [⟨(some 14), none, .mov (.tmp 9)⟩,
          ⟨(some 15), none, .mov (.tmp 1)⟩,
          ⟨(some 16), none, .bin .lss (.tmp 14) (.tmp 15)⟩] [0, 1, 6, 7, 8, 9, 16])
      (.cond (.tmp 16)
        (.skip)
        (.exit 0)))
      (.seq (.block 1
        (.seq (.ops [⟨(some 19), none, .mov (.tmp 6)⟩,
            ⟨(some 20), none, .mov (.tmp 7)⟩,
            ⟨(some 21), none, .mkRow 3 1 1 [(.int .i64 0)] [(0, 1, (.tmp 20))]⟩,
            ⟨(some 22), none, .app 3 1 8 (.tmp 19) (.tmp 21)⟩,
            ⟨(some 6), none, .mov (.tmp 22)⟩] [0, 1, 6, 7, 8, 9])
        (.seq (.seq (.ops [⟨(some 23), none, .mov (.tmp 7)⟩,
            ⟨(some 24), none, .mov (.tmp 8)⟩,
            ⟨(some 25), none, .bin .add (.tmp 23) (.tmp 24)⟩,
            ⟨(some 26), none, .bin .lss (.tmp 25) (.const (.int .i64 0))⟩,
            ⟨(some 27), none, .mov (.tmp 26)⟩,
            ⟨(some 28), (some (27, false)), .mov (.tmp 7)⟩,
            ⟨(some 29), (some (27, false)), .mov (.tmp 8)⟩,
            ⟨(some 30), (some (27, false)), .bin .add (.tmp 28) (.tmp 29)⟩,
            ⟨(some 31), (some (27, false)), .mov (.tmp 0)⟩,
            ⟨(some 32), (some (27, false)), .bin .geq (.tmp 30) (.tmp 31)⟩,
            ⟨(some 33), none, .pick (.tmp 27) (.const (.bool true)) (.tmp 32)⟩] [0, 1, 6, 7, 8, 9, 33])
        (.cond (.tmp 33)
          (.ops [⟨(some 34), none, .mov (.tmp 8)⟩,
              ⟨(some 35), none, .un .neg (.tmp 34)⟩,
              ⟨(some 8), none, .mov (.tmp 35)⟩] [0, 1, 6, 7, 8, 9])
          (.skip)))
        (.seq (.ops [⟨(some 36), none, .mov (.tmp 0)⟩,
            ⟨(some 37), none, .bin .gtr (.tmp 36) (.const (.int .i64 1))⟩] [0, 1, 6, 7, 8, 9, 37])
        (.cond (.tmp 37)
          (.ops [⟨(some 38), none, .mov (.tmp 7)⟩,
              ⟨(some 39), none, .mov (.tmp 8)⟩,
              ⟨(some 40), none, .bin .add (.tmp 38) (.tmp 39)⟩,
              ⟨(some 7), none, .mov (.tmp 40)⟩] [0, 1, 6, 7, 8, 9])
          (.skip))))))
      (.ops [⟨(some 17), none, .mov (.tmp 9)⟩,
          ⟨(some 18), none, .bin .add (.tmp 17) (.const (.int .i64 1))⟩,
          ⟨(some 9), none, .mov (.tmp 18)⟩] [0, 1, 6, 7, 8, 9]))
def c14 : AFun := ⟨
  .seq (.ops [⟨(some 4), none, .mov (.const (.slice none 0 0))⟩,
      ⟨(some 5), none, .mov (.const (.int .i64 0))⟩] [0, 1])
  (.seq (.seq (.ops [⟨(some 10), none, .mov (.tmp 0)⟩,
      ⟨(some 11), none, .mov (.tmp 1)⟩,
      ⟨(some 12), none, .callF 27 [(.tmp 10), (.tmp 11)]⟩,
      ⟨(some 13), none, .un .not (.tmp 12)⟩] [0, 1, 13])
  (.cond (.tmp 13)
    (.seq (.ops [⟨(some 4), none, .mov (.const (.slice none 0 0))⟩,
        ⟨(some 5), none, .mov (.const (.int .i64 2))⟩] [4, 5])
    (.ret))
    (.skip)))
  (.seq (.ops [⟨(some 6), none, .mov (.const (.slice none 0 0))⟩] [0, 1, 6])
  (.seq (.ops [⟨(some 7), none, .mov (.const (.int .i64 0))⟩,
      ⟨(some 8), none, .mov (.const (.int .i64 1))⟩] [0, 1, 6, 7, 8])
  (.seq (.seq (.ops [⟨(some 9), none, .mov (.const (.int .i64 0))⟩] [0, 1, 6, 7, 8, 9])
  (.block 0
    (.loop [0, 1, 6, 7, 8, 9]
      c14l0)))
  (.seq (.ops [⟨(some 41), none, .mov (.tmp 6)⟩,
      ⟨(some 4), none, .mov (.tmp 41)⟩,
      ⟨(some 5), none, .mov (.const (.int .i64 0))⟩] [4, 5])
  (.ret)))))),
  42, [(4, none), (5, none)], true⟩
theorem ok14 : FunOK Try.prog 14 c14 := ⟨⟨Try.f14, _, c14.code, Try.func14, rfl, by kernel_rfl, rfl, by kernel_rfl, by kernel_rfl⟩⟩
/- raddle/thread.Join -/
def c15 : AFun := ⟨
  .seq (.ops [⟨(some 4), none, .mov (.const (.slice none 0 0))⟩,
      ⟨(some 5), none, .mov (.const (.int .i64 0))⟩] [0, 1])
  (.seq (.seq (.ops [⟨(some 7), none, .mov (.tmp 0)⟩,
      ⟨(some 8), none, .mov (.tmp 1)⟩,
      ⟨(some 9), none, .mkRow 22 1 2 [(.slice none 0 0)] [(0, 1, (.tmp 7)), (1, 1, (.tmp 8))]⟩,
      ⟨(some 10), none, .callF 21 [(.tmp 9)]⟩,
      ⟨(some 6), none, .mov (.tmp 10)⟩] [0, 1, 6])
  (.seq (.ops [⟨(some 11), none, .mov (.tmp 6)⟩,
      ⟨(some 12), none, .bin .neq (.tmp 11) (.const (.int .i64 0))⟩] [0, 1, 6, 12])
  (.cond (.tmp 12)
    (.seq (.ops [⟨(some 13), none, .mov (.tmp 6)⟩,
        ⟨(some 4), none, .mov (.const (.slice none 0 0))⟩,
        ⟨(some 5), none, .mov (.tmp 13)⟩] [4, 5])
    (.ret))
    (.skip))))
  (.seq (.seq (.ops [⟨(some 14), none, .mov (.tmp 0)⟩,
      ⟨(some 15), none, .len false (.tmp 14)⟩,
      ⟨(some 16), none, .mov (.tmp 1)⟩,
      ⟨(some 17), none, .len false (.tmp 16)⟩,
      ⟨(some 18), none, .bin .add (.tmp 15) (.tmp 17)⟩,
      ⟨(some 19), none, .bin .gtr (.tmp 18) (.const (.int .i64 400))⟩] [0, 1, 19])
  (.cond (.tmp 19)
    (.seq (.ops [⟨(some 4), none, .mov (.const (.slice none 0 0))⟩,
        ⟨(some 5), none, .mov (.const (.int .i64 4))⟩] [4, 5])
    (.ret))
    (.skip)))
  (.seq (.ops [⟨(some 20), none, .mov (.tmp 0)⟩,
      ⟨(some 21), none, .mov (.tmp 1)⟩,
      ⟨(some 22), none, .mkRow 22 1 2 [(.slice none 0 0)] [(0, 1, (.tmp 20)), (1, 1, (.tmp 21))]⟩,
      ⟨(some 23), none, .callF 28 [(.tmp 22)]⟩,
      ⟨(some 4), none, .mov (.tmp 23)⟩,
      ⟨(some 5), none, .mov (.const (.int .i64 0))⟩] [4, 5])
  (.ret)))),
  24, [(4, none), (5, none)], true⟩
theorem ok15 : FunOK Try.prog 15 c15 := ⟨⟨Try.f15, _, c15.code, Try.func15, rfl, by kernel_rfl, rfl, by kernel_rfl, by kernel_rfl⟩⟩
/- raddle/raddleref02.Join -/
def c16 : AFun := ⟨
  .seq (.ops [⟨(some 4), none, .mov (.const (.slice none 0 0))⟩,
      ⟨(some 5), none, .mov (.const (.int .i64 0))⟩] [0, 1])
  (.seq (.seq (.ops [⟨(some 6), none, .mov (.tmp 0)⟩,
      ⟨(some 7), none, .mov (.tmp 1)⟩,
      ⟨(some 8), none, .callF 25 [(.tmp 6), (.tmp 7)]⟩,
      ⟨(some 9), none, .bin .neq (.tmp 8) (.const (.int .i64 0))⟩] [0, 1, 9])
  (.cond (.tmp 9)
    (.seq (.ops [⟨(some 10), none, .mov (.tmp 0)⟩,
        ⟨(some 11), none, .mov (.tmp 1)⟩,
        ⟨(some 12), none, .callF 25 [(.tmp 10), (.tmp 11)]⟩,
        ⟨(some 4), none, .mov (.const (.slice none 0 0))⟩,
        ⟨(some 5), none, .mov (.tmp 12)⟩] [4, 5])
    (.ret))
    (.skip)))
  (.seq (.seq (.ops [⟨(some 13), none, .mov (.tmp 0)⟩,
      ⟨(some 14), none, .len false (.tmp 13)⟩,
      ⟨(some 15), none, .mov (.tmp 1)⟩,
      ⟨(some 16), none, .len false (.tmp 15)⟩,
      ⟨(some 17), none, .bin .add (.tmp 14) (.tmp 16)⟩,
      ⟨(some 18), none, .bin .gtr (.tmp 17) (.const (.int .i64 400))⟩] [0, 1, 18])
  (.cond (.tmp 18)
    (.seq (.ops [⟨(some 4), none, .mov (.const (.slice none 0 0))⟩,
        ⟨(some 5), none, .mov (.const (.int .i64 4))⟩] [4, 5])
    (.ret))
    (.skip)))
  (.seq (.ops [⟨(some 19), none, .mkRow 3 1 0 [(.int .i64 0)] []⟩,
      ⟨(some 20), none, .mov (.tmp 0)⟩,
      ⟨(some 21), none, .app 3 1 8 (.tmp 19) (.tmp 20)⟩,
      ⟨(some 22), none, .mov (.tmp 1)⟩,
      ⟨(some 23), none, .app 3 1 8 (.tmp 21) (.tmp 22)⟩,
      ⟨(some 4), none, .mov (.tmp 23)⟩,
      ⟨(some 5), none, .mov (.const (.int .i64 0))⟩] [4, 5])
  (.ret)))),
  24, [(4, none), (5, none)], true⟩
theorem ok16 : FunOK Try.prog 16 c16 := ⟨⟨Try.f16, _, c16.code, Try.func16, rfl, by kernel_rfl, rfl, by kernel_rfl, by kernel_rfl⟩⟩
/- raddle/thread.Tile -/
def c17 : AFun := ⟨
  .seq (.ops [⟨(some 4), none, .mov (.const (.slice none 0 0))⟩,
      ⟨(some 5), none, .mov (.const (.int .i64 0))⟩] [0, 1])
  (.seq (.seq (.ops [⟨(some 7), none, .mov (.tmp 0)⟩,
      ⟨(some 8), none, .mkRow 22 1 1 [(.slice none 0 0)] [(0, 1, (.tmp 7))]⟩,
      ⟨(some 9), none, .callF 21 [(.tmp 8)]⟩,
      ⟨(some 6), none, .mov (.tmp 9)⟩] [0, 1, 6])
  (.seq (.ops [⟨(some 10), none, .mov (.tmp 6)⟩,
      ⟨(some 11), none, .bin .neq (.tmp 10) (.const (.int .i64 0))⟩] [0, 1, 6, 11])
  (.cond (.tmp 11)
    (.seq (.ops [⟨(some 12), none, .mov (.tmp 6)⟩,
        ⟨(some 4), none, .mov (.const (.slice none 0 0))⟩,
        ⟨(some 5), none, .mov (.tmp 12)⟩] [4, 5])
    (.ret))
    (.skip))))
  (.seq (.block 0
    (.seq (.ops [⟨(some 14), none, .mov (.tmp 1)⟩,
        ⟨(some 15), none, .bin .lss (.tmp 14) (.const (.int .i64 0))⟩,
        ⟨(some 13), none, .mov (.tmp 15)⟩] [0, 1, 13])
    (.cond (.tmp 13)
      (.seq (.ops [⟨(some 4), none, .mov (.const (.slice none 0 0))⟩,
          ⟨(some 5), none, .mov (.const (.int .i64 2))⟩] [4, 5])
      (.ret))
      (.seq (.ops [⟨(some 17), none, .mov (.tmp 0)⟩,
          ⟨(some 18), none, .len false (.tmp 17)⟩,
          ⟨(some 19), none, .bin .eql (.tmp 18) (.const (.int .i64 0))⟩,
          ⟨(some 16), none, .mov (.tmp 19)⟩] [0, 1, 16])
      (.cond (.tmp 16)
        (.seq (.ops [⟨(some 4), none, .mov (.const (.slice none 0 0))⟩,
            ⟨(some 5), none, .mov (.const (.int .i64 0))⟩] [4, 5])
        (.ret))
        (.seq (.ops [⟨(some 21), none, .mov (.tmp 1)⟩,
            ⟨(some 22), none, .mov (.tmp 0)⟩,
            ⟨(some 23), none, .len false (.tmp 22)⟩,
            ⟨(some 24), none, .bin .quo (.const (.int .i64 400)) (.tmp 23)⟩,
            ⟨(some 25), none, .bin .gtr (.tmp 21) (.tmp 24)⟩,
            ⟨(some 20), none, .mov (.tmp 25)⟩] [0, 1, 20])
        (.cond (.tmp 20)
          (.seq (.ops [⟨(some 4), none, .mov (.const (.slice none 0 0))⟩,
              ⟨(some 5), none, .mov (.const (.int .i64 4))⟩] [4, 5])
          (.ret))
          (.skip))))))))
  (.seq (.ops [⟨(some 26), none, .mov (.tmp 0)⟩,
      ⟨(some 27), none, .mov (.tmp 1)⟩,
      ⟨(some 28), none, .callF 29 [(.tmp 26), (.tmp 27)]⟩,
      ⟨(some 4), none, .mov (.tmp 28)⟩,
      ⟨(some 5), none, .mov (.const (.int .i64 0))⟩] [4, 5])
  (.ret)))),
  29, [(4, none), (5, none)], true⟩
theorem ok17 : FunOK Try.prog 17 c17 := ⟨⟨Try.f17, _, c17.code, Try.func17, rfl, by kernel_rfl, rfl, by kernel_rfl, by kernel_rfl⟩⟩
/- raddle/raddleref02.Tile -/
def c18l0 : AC :=
  .seq (.seq (.ops [⟨(some 25), none, .mov (.tmp 7)⟩,
          ⟨(some 26), none, .mov (.tmp 1)⟩,
          ⟨(some 27), none, .bin .lss (.tmp 25) (.tmp 26)⟩,
          ⟨(some 28), none, .mov (.tmp 27)⟩,
          ⟨(some 29), (some (28, true)), .mov (.tmp 0)⟩,
          ⟨(some 30), (some (28, true)), .len false (.tmp 29)⟩,
          ⟨(some 31), (some (28, true)), .bin .gtr (.tmp 30) (.const (.int .i64 0))⟩,
          ⟨(some 32), none, .pick (.tmp 28) (.tmp 31) (.const (.bool false))⟩] [0, 1, 6, 7, 32])
      (.cond (.tmp 32)
        (.skip)
        (.exit 0)))
      (.seq (.block 1
        (.ops [⟨(some 35), none, .mov (.tmp 6)⟩,
            ⟨(some 36), none, .mov (.tmp 0)⟩,
            ⟨(some 37), none, .app 3 1 8 (.tmp 35) (.tmp 36)⟩,
            ⟨(some 6), none, .mov (.tmp 37)⟩] [0, 1, 6, 7]))
      (.ops [⟨(some 33), none, .mov (.tmp 7)⟩,
          ⟨(some 34), none, .bin .add (.tmp 33) (.const (.int .i64 1))⟩,
          ⟨(some 7), none, .mov (.tmp 34)⟩] [0, 1, 6, 7]))
def c18 : AFun := ⟨
  .seq (.ops [⟨(some 4), none, .mov (.const (.slice none 0 0))⟩,
      ⟨(some 5), none, .mov (.const (.int .i64 0))⟩] [0, 1])
  (.seq (.seq (.ops [⟨(some 8), none, .mov (.tmp 0)⟩,
      ⟨(some 9), none, .callF 22 [(.tmp 8)]⟩,
      ⟨(some 10), none, .bin .neq (.tmp 9) (.const (.int .i64 0))⟩] [0, 1, 10])
  (.cond (.tmp 10)
    (.seq (.ops [⟨(some 11), none, .mov (.tmp 0)⟩,
        ⟨(some 12), none, .callF 22 [(.tmp 11)]⟩,
        ⟨(some 4), none, .mov (.const (.slice none 0 0))⟩,
        ⟨(some 5), none, .mov (.tmp 12)⟩] [4, 5])
    (.ret))
    (.skip)))
  (.seq (.seq (.ops [⟨(some 13), none, .mov (.tmp 1)⟩,
      ⟨(some 14), none, .bin .lss (.tmp 13) (.const (.int .i64 0))⟩] [0, 1, 14])
  (.cond (.tmp 14)
    (.seq (.ops [⟨(some 4), none, .mov (.const (.slice none 0 0))⟩,
        ⟨(some 5), none, .mov (.const (.int .i64 2))⟩] [4, 5])
    (.ret))
    (.skip)))
  (.seq (.seq (.ops [⟨(some 15), none, .mov (.tmp 0)⟩,
      ⟨(some 16), none, .len false (.tmp 15)⟩,
      ⟨(some 17), none, .bin .gtr (.tmp 16) (.const (.int .i64 0))⟩,
      ⟨(some 18), none, .mov (.tmp 17)⟩,
      ⟨(some 19), (some (18, true)), .mov (.tmp 1)⟩,
      ⟨(some 20), (some (18, true)), .mov (.tmp 0)⟩,
      ⟨(some 21), (some (18, true)), .len false (.tmp 20)⟩,
      ⟨(some 22), (some (18, true)), .bin .quo (.const (.int .i64 400)) (.tmp 21)⟩,
      ⟨(some 23), (some (18, true)), .bin .gtr (.tmp 19) (.tmp 22)⟩,
      ⟨(some 24), none, .pick (.tmp 18) (.tmp 23) (.const (.bool false))⟩] [0, 1, 24])
  (.cond (.tmp 24)
    (.seq (.ops [⟨(some 4), none, .mov (.const (.slice none 0 0))⟩,
        ⟨(some 5), none, .mov (.const (.int .i64 4))⟩] [4, 5])
    (.ret))
    (.skip)))
  (.seq (.ops [⟨(some 6), none, .mov (.const (.slice none 0 0))⟩] [0, 1, 6])
  (.seq (.seq (.ops [⟨(some 7), none, .mov (.const (.int .i64 0))⟩] [0, 1, 6, 7])
  (.block 0
    (.loop [0, 1, 6, 7]
      c18l0)))
  (.seq (.ops [⟨(some 38), none, .mov (.tmp 6)⟩,
      ⟨(some 4), none, .mov (.tmp 38)⟩,
      ⟨(some 5), none, .mov (.const (.int .i64 0))⟩] [4, 5])
  (.ret))))))),
  39, [(4, none), (5, none)], true⟩
theorem ok18 : FunOK Try.prog 18 c18 := ⟨⟨Try.f18, _, c18.code, Try.func18, rfl, by kernel_rfl, rfl, by kernel_rfl, by kernel_rfl⟩⟩
/- raddle/thread.Reverse -/
def c19 : AFun := ⟨
  .seq (.ops [⟨(some 2), none, .mov (.const (.slice none 0 0))⟩,
      ⟨(some 3), none, .mov (.const (.int .i64 0))⟩] [0])
  (.seq (.seq (.ops [⟨(some 6), none, .mov (.tmp 0)⟩,
      ⟨(some 7), none, .mkRow 22 1 1 [(.slice none 0 0)] [(0, 1, (.tmp 6))]⟩,
      ⟨(some 8), none, .callF 21 [(.tmp 7)]⟩,
      ⟨(some 4), none, .mov (.tmp 8)⟩] [0, 4])
  (.seq (.ops [⟨(some 9), none, .mov (.tmp 4)⟩,
      ⟨(some 10), none, .bin .neq (.tmp 9) (.const (.int .i64 0))⟩] [0, 4, 10])
  (.cond (.tmp 10)
    (.seq (.ops [⟨(some 11), none, .mov (.tmp 4)⟩,
        ⟨(some 2), none, .mov (.const (.slice none 0 0))⟩,
        ⟨(some 3), none, .mov (.tmp 11)⟩] [2, 3])
    (.ret))
    (.skip))))
  (.seq (.ops [⟨(some 12), none, .mov (.tmp 0)⟩,
      ⟨(some 13), none, .callF 30 [(.tmp 12)]⟩,
      ⟨(some 5), none, .mov (.tmp 13)⟩] [5])
  (.seq (.ops [⟨(some 14), none, .mov (.tmp 5)⟩,
      ⟨(some 15), none, .callF 31 [(.tmp 14)]⟩] [5])
  (.seq (.ops [⟨(some 16), none, .mov (.tmp 5)⟩,
      ⟨(some 2), none, .mov (.tmp 16)⟩,
      ⟨(some 3), none, .mov (.const (.int .i64 0))⟩] [2, 3])
  (.ret))))),
  17, [(2, none), (3, none)], true⟩
theorem ok19 : FunOK Try.prog 19 c19 := ⟨⟨Try.f19, _, c19.code, Try.func19, rfl, by kernel_rfl, rfl, by kernel_rfl, by kernel_rfl⟩⟩
/- raddle/raddleref02.Reverse -/
def c20l0 : AC :=
  .seq (.seq (.ops [⟨(some 14), none, .mov (.tmp 5)⟩,
          ⟨(some 15), none, .bin .geq (.tmp 14) (.const (.int .i64 0))⟩] [0, 4, 5, 15])
      (.cond (.tmp 15)
        (.skip)
        (.exit 0)))
      (.seq (.block 1
        (.ops [⟨(some 18), none, .mov (.tmp 4)⟩,
            ⟨(some 19), none, .mov (.tmp 0)⟩,
            ⟨(some 20), none, .mov (.tmp 5)⟩,
            ⟨(some 21), none, .idxS 1 (.tmp 19) (.tmp 20)⟩,
            ⟨(some 22), none, .load none (.tmp 21)⟩,
            ⟨(some 23), none, .mkRow 3 1 1 [(.int .i64 0)] [(0, 1, (.tmp 22))]⟩,
            ⟨(some 24), none, .app 3 1 8 (.tmp 18) (.tmp 23)⟩,
            ⟨(some 4), none, .mov (.tmp 24)⟩] [0, 4, 5]))
      (.ops [⟨(some 16), none, .mov (.tmp 5)⟩,
          ⟨(some 17), none, .bin .sub (.tmp 16) (.const (.int .i64 1))⟩,
          ⟨(some 5), none, .mov (.tmp 17)⟩] [0, 4, 5]))
def c20 : AFun := ⟨
  .seq (.ops [⟨(some 2), none, .mov (.const (.slice none 0 0))⟩,
      ⟨(some 3), none, .mov (.const (.int .i64 0))⟩] [0])
  (.seq (.seq (.ops [⟨(some 6), none, .mov (.tmp 0)⟩,
      ⟨(some 7), none, .callF 22 [(.tmp 6)]⟩,
      ⟨(some 8), none, .bin .neq (.tmp 7) (.const (.int .i64 0))⟩] [0, 8])
  (.cond (.tmp 8)
    (.seq (.ops [⟨(some 9), none, .mov (.tmp 0)⟩,
        ⟨(some 10), none, .callF 22 [(.tmp 9)]⟩,
        ⟨(some 2), none, .mov (.const (.slice none 0 0))⟩,
        ⟨(some 3), none, .mov (.tmp 10)⟩] [2, 3])
    (.ret))
    (.skip)))
  (.seq (.ops [⟨(some 4), none, .mov (.const (.slice none 0 0))⟩] [0, 4])
  (.seq (.seq (.ops [⟨(some 11), none, .mov (.tmp 0)⟩,
      ⟨(some 12), none, .len false (.tmp 11)⟩,
      ⟨(some 13), none, .bin .sub (.tmp 12) (.const (.int .i64 1))⟩,
      ⟨(some 5), none, .mov (.tmp 13)⟩] [0, 4, 5])
  (.block 0
    (.loop [0, 4, 5]
      c20l0)))
  (.seq (.ops [⟨(some 25), none, .mov (.tmp 4)⟩,
      ⟨(some 2), none, .mov (.tmp 25)⟩,
      ⟨(some 3), none, .mov (.const (.int .i64 0))⟩] [2, 3])
  (.ret))))),
  26, [(2, none), (3, none)], true⟩
theorem ok20 : FunOK Try.prog 20 c20 := ⟨⟨Try.f20, _, c20.code, Try.func20, rfl, by kernel_rfl, rfl, by kernel_rfl, by kernel_rfl⟩⟩
/- raddle/thread.check -/
def c21l0 : AC :=
  .seq (.ops [⟨(some 19), none, .bin .lss (.tmp 18) (.tmp 17)⟩] [7, 8, 9, 16, 17, 18, 19])
            (.seq (.cond (.tmp 19)
              (.skip)
              (.exit 2))
            (.seq (.block 3
              (.seq (.ops [⟨(some 20), none, .idxS 1 (.tmp 16) (.tmp 18)⟩,
                  ⟨(some 21), none, .load none (.tmp 20)⟩,
                  ⟨(some 6), none, .mov (.tmp 21)⟩] [6, 7, 8, 9, 16, 17, 18])
              (.seq (.ops [⟨(some 22), none, .mov (.tmp 6)⟩,
                  ⟨(some 23), none, .bin .lss (.tmp 22) (.const (.int .i64 0))⟩,
                  ⟨(some 24), none, .mov (.tmp 23)⟩,
                  ⟨(some 25), (some (24, false)), .mov (.tmp 6)⟩,
                  ⟨(some 26), (some (24, false)), .bin .geq (.tmp 25) (.const (.int .i64 400))⟩,
                  ⟨(some 27), none, .pick (.tmp 24) (.const (.bool true)) (.tmp 26)⟩] [7, 8, 9, 16, 17, 18, 27])
              (.cond (.tmp 27)
                (.seq (.ops [⟨(some 2), none, .mov (.const (.int .i64 8))⟩] [2])
                (.ret))
                (.skip)))))
            (.ops [⟨(some 28), none, .bin .add (.tmp 18) (.const (.int .i64 1))⟩,
                ⟨(some 18), none, .mov (.tmp 28)⟩] [7, 8, 9, 16, 17, 18])))
def c21l1 : AC :=
  .seq (.ops [⟨(some 10), none, .bin .lss (.tmp 9) (.tmp 8)⟩] [7, 8, 9, 10])
      (.seq (.cond (.tmp 10)
        (.skip)
        (.exit 0))
      (.seq (.block 1
        (.seq (.ops [⟨(some 11), none, .idxS 1 (.tmp 7) (.tmp 9)⟩,
            ⟨(some 12), none, .load none (.tmp 11)⟩,
            ⟨(some 4), none, .mov (.tmp 12)⟩] [4, 7, 8, 9])
        (.seq (.seq (.ops [⟨(some 13), none, .mov (.tmp 4)⟩,
            ⟨(some 14), none, .len false (.tmp 13)⟩,
            ⟨(some 15), none, .bin .gtr (.tmp 14) (.const (.int .i64 400))⟩] [4, 7, 8, 9, 15])
        (.cond (.tmp 15)
          (.seq (.ops [⟨(some 2), none, .mov (.const (.int .i64 4))⟩] [2])
          (.ret))
          (.skip)))
        (.seq (.ops [⟨(some 16), none, .mov (.tmp 4)⟩,
            ⟨(some 17), none, .len false (.tmp 16)⟩,
            ⟨(some 18), none, .mov (.const (.int .i64 0))⟩] [7, 8, 9, 16, 17, 18])
        (.block 2
          (.loop [7, 8, 9, 16, 17, 18]
            c21l0))))))
      (.ops [⟨(some 29), none, .bin .add (.tmp 9) (.const (.int .i64 1))⟩,
          ⟨(some 9), none, .mov (.tmp 29)⟩] [7, 8, 9])))
def c21 : AFun := ⟨
  .seq (.ops [⟨(some 2), none, .mov (.const (.int .i64 0))⟩] [0])
  (.seq (.seq (.ops [⟨(some 7), none, .mov (.tmp 0)⟩,
      ⟨(some 8), none, .len false (.tmp 7)⟩,
      ⟨(some 9), none, .mov (.const (.int .i64 0))⟩] [7, 8, 9])
  (.block 0
    (.loop [7, 8, 9]
      c21l1)))
  (.seq (.ops [⟨(some 2), none, .mov (.const (.int .i64 0))⟩] [2])
  (.ret))),
  30, [(2, none)], true⟩
theorem ok21 : FunOK Try.prog 21 c21 := ⟨⟨Try.f21, _, c21.code, Try.func21, rfl, by kernel_rfl, rfl, by kernel_rfl, by kernel_rfl⟩⟩
/- raddle/raddleref02.Check -/
def c22l0 : AC :=
  .seq (.seq (.ops [⟨(some 7), none, .mov (.tmp 3)⟩,
          ⟨(some 8), none, .mov (.tmp 0)⟩,
          ⟨(some 9), none, .len false (.tmp 8)⟩,
          ⟨(some 10), none, .bin .lss (.tmp 7) (.tmp 9)⟩] [0, 3, 10])
      (.cond (.tmp 10)
        (.skip)
        (.exit 0)))
      (.seq (.block 1
        (.seq (.ops [⟨(some 13), none, .mov (.tmp 0)⟩,
            ⟨(some 14), none, .mov (.tmp 3)⟩,
            ⟨(some 15), none, .idxS 1 (.tmp 13) (.tmp 14)⟩,
            ⟨(some 16), none, .load none (.tmp 15)⟩,
            ⟨(some 17), none, .bin .lss (.tmp 16) (.const (.int .i64 0))⟩,
            ⟨(some 18), none, .mov (.tmp 17)⟩,
            ⟨(some 19), (some (18, false)), .mov (.tmp 0)⟩,
            ⟨(some 20), (some (18, false)), .mov (.tmp 3)⟩,
            ⟨(some 21), (some (18, false)), .idxS 1 (.tmp 19) (.tmp 20)⟩,
            ⟨(some 22), (some (18, false)), .load none (.tmp 21)⟩,
            ⟨(some 23), (some (18, false)), .bin .geq (.tmp 22) (.const (.int .i64 400))⟩,
            ⟨(some 24), none, .pick (.tmp 18) (.const (.bool true)) (.tmp 23)⟩] [0, 3, 24])
        (.cond (.tmp 24)
          (.seq (.ops [⟨(some 2), none, .mov (.const (.int .i64 8))⟩] [2])
          (.ret))
          (.skip))))
      (.ops [⟨(some 11), none, .mov (.tmp 3)⟩,
          ⟨(some 12), none, .bin .add (.tmp 11) (.const (.int .i64 1))⟩,
          ⟨(some 3), none, .mov (.tmp 12)⟩] [0, 3]))
def c22 : AFun := ⟨
  .seq (.ops [⟨(some 2), none, .mov (.const (.int .i64 0))⟩] [0])
  (.seq (.seq (.ops [⟨(some 4), none, .mov (.tmp 0)⟩,
      ⟨(some 5), none, .len false (.tmp 4)⟩,
      ⟨(some 6), none, .bin .gtr (.tmp 5) (.const (.int .i64 400))⟩] [0, 6])
  (.cond (.tmp 6)
    (.seq (.ops [⟨(some 2), none, .mov (.const (.int .i64 4))⟩] [2])
    (.ret))
    (.skip)))
  (.seq (.seq (.ops [⟨(some 3), none, .mov (.const (.int .i64 0))⟩] [0, 3])
  (.block 0
    (.loop [0, 3]
      c22l0)))
  (.seq (.ops [⟨(some 2), none, .mov (.const (.int .i64 0))⟩] [2])
  (.ret)))),
  25, [(2, none)], true⟩
theorem ok22 : FunOK Try.prog 22 c22 := ⟨⟨Try.f22, _, c22.code, Try.func22, rfl, by kernel_rfl, rfl, by kernel_rfl, by kernel_rfl⟩⟩
/- raddle/raddleref02.Both -/
def c25 : AFun := ⟨
  .seq (.ops [⟨(some 4), none, .mov (.const (.int .i64 0))⟩] [0, 1])
  (.seq (.seq (.ops [⟨(some 5), none, .mov (.tmp 0)⟩,
      ⟨(some 6), none, .callF 22 [(.tmp 5)]⟩,
      ⟨(some 7), none, .bin .neq (.tmp 6) (.const (.int .i64 0))⟩] [0, 1, 7])
  (.cond (.tmp 7)
    (.seq (.ops [⟨(some 8), none, .mov (.tmp 0)⟩,
        ⟨(some 9), none, .callF 22 [(.tmp 8)]⟩,
        ⟨(some 4), none, .mov (.tmp 9)⟩] [4])
    (.ret))
    (.skip)))
  (.seq (.ops [⟨(some 10), none, .mov (.tmp 1)⟩,
      ⟨(some 11), none, .callF 22 [(.tmp 10)]⟩,
      ⟨(some 4), none, .mov (.tmp 11)⟩] [4])
  (.ret))),
  12, [(4, none)], true⟩
theorem ok25 : FunOK Try.prog 25 c25 := ⟨⟨Try.f25, _, c25.code, Try.func25, rfl, by kernel_rfl, rfl, by kernel_rfl, by kernel_rfl⟩⟩
/- raddle/thread.ranged -/
def c26 : AFun := ⟨
  .seq (.ops [⟨(some 4), none, .mov (.const (.bool false))⟩] [0, 1])
  (.seq (.ops [⟨(some 5), none, .mov (.tmp 0)⟩,
      ⟨(some 6), none, .bin .geq (.tmp 5) (.const (.int .i64 1))⟩,
      ⟨(some 7), none, .mov (.tmp 6)⟩,
      ⟨(some 8), (some (7, true)), .mov (.tmp 1)⟩,
      ⟨(some 9), (some (7, true)), .bin .geq (.tmp 8) (.const (.int .i64 0))⟩,
      ⟨(some 10), none, .pick (.tmp 7) (.tmp 9) (.const (.bool false))⟩,
      ⟨(some 11), none, .mov (.tmp 10)⟩,
      ⟨(some 12), (some (11, true)), .mov (.tmp 0)⟩,
      ⟨(some 13), (some (11, true)), .mov (.tmp 1)⟩,
      ⟨(some 14), (some (11, true)), .mm true (.tmp 12) (.tmp 13)⟩,
      ⟨(some 15), (some (11, true)), .bin .leq (.tmp 14) (.const (.int .i64 400))⟩,
      ⟨(some 16), none, .pick (.tmp 11) (.tmp 15) (.const (.bool false))⟩,
      ⟨(some 4), none, .mov (.tmp 16)⟩] [4])
  (.ret)),
  17, [(4, none)], true⟩
theorem ok26 : FunOK Try.prog 26 c26 := ⟨⟨Try.f26, _, c26.code, Try.func26, rfl, by kernel_rfl, rfl, by kernel_rfl, by kernel_rfl⟩⟩
/- raddle/raddleref02.ranged -/
def c27 : AFun := ⟨
  .seq (.ops [⟨(some 4), none, .mov (.const (.bool false))⟩] [0, 1])
  (.seq (.ops [⟨(some 5), none, .mov (.tmp 0)⟩,
      ⟨(some 6), none, .bin .geq (.tmp 5) (.const (.int .i64 1))⟩,
      ⟨(some 7), none, .mov (.tmp 6)⟩,
      ⟨(some 8), (some (7, true)), .mov (.tmp 0)⟩,
      ⟨(some 9), (some (7, true)), .bin .leq (.tmp 8) (.const (.int .i64 400))⟩,
      ⟨(some 10), none, .pick (.tmp 7) (.tmp 9) (.const (.bool false))⟩,
      ⟨(some 11), none, .mov (.tmp 10)⟩,
      ⟨(some 12), (some (11, true)), .mov (.tmp 1)⟩,
      ⟨(some 13), (some (11, true)), .bin .geq (.tmp 12) (.const (.int .i64 0))⟩,
      ⟨(some 14), none, .pick (.tmp 11) (.tmp 13) (.const (.bool false))⟩,
      ⟨(some 15), none, .mov (.tmp 14)⟩,
      ⟨(some 16), (some (15, true)), .mov (.tmp 1)⟩,
      ⟨(some 17), (some (15, true)), .bin .leq (.tmp 16) (.const (.int .i64 400))⟩,
      ⟨(some 18), none, .pick (.tmp 15) (.tmp 17) (.const (.bool false))⟩,
      ⟨(some 4), none, .mov (.tmp 18)⟩] [4])
  (.ret)),
  19, [(4, none)], true⟩
theorem ok27 : FunOK Try.prog 27 c27 := ⟨⟨Try.f27, _, c27.code, Try.func27, rfl, by kernel_rfl, rfl, by kernel_rfl, by kernel_rfl⟩⟩
/- slices.Concat[[]int,int] (1 operations that the interpreter lacks) -/
def c28l0 : AC :=
  .seq (.ops [⟨(some 28), none, .bin .lss (.tmp 27) (.tmp 26)⟩] [6, 25, 26, 27, 28])
      (.seq (.cond (.tmp 28)
        (.skip)
        (.exit 2))
      (.seq (.block 3
        (.seq (.ops [⟨(some 29), none, .idxS 1 (.tmp 25) (.tmp 27)⟩,
            ⟨(some 30), none, .load none (.tmp 29)⟩,
            ⟨(some 8), none, .mov (.tmp 30)⟩] [6, 8, 25, 26, 27])
        (.ops [⟨(some 31), none, .mov (.tmp 6)⟩,
            ⟨(some 32), none, .mov (.tmp 8)⟩,
            ⟨(some 33), none, .app 3 1 8 (.tmp 31) (.tmp 32)⟩,
            ⟨(some 6), none, .mov (.tmp 33)⟩] [6, 25, 26, 27])))
      (.ops [⟨(some 34), none, .bin .add (.tmp 27) (.const (.int .i64 1))⟩,
          ⟨(some 27), none, .mov (.tmp 34)⟩] [6, 25, 26, 27])))
def c28l1 : AC :=
  .seq (.ops [⟨(some 12), none, .bin .lss (.tmp 11) (.tmp 10)⟩] [0, 3, 9, 10, 11, 12])
      (.seq (.cond (.tmp 12)
        (.skip)
        (.exit 0))
      (.seq (.block 1
        (.seq (.ops [⟨(some 13), none, .idxS 1 (.tmp 9) (.tmp 11)⟩,
            ⟨(some 14), none, .load none (.tmp 13)⟩,
            ⟨(some 5), none, .mov (.tmp 14)⟩] [0, 3, 5, 9, 10, 11])
        (.seq (.ops [⟨(some 15), none, .mov (.tmp 3)⟩,
            ⟨(some 16), none, .mov (.tmp 5)⟩,
            ⟨(some 17), none, .len false (.tmp 16)⟩,
            ⟨(some 18), none, .bin .add (.tmp 15) (.tmp 17)⟩,
            ⟨(some 3), none, .mov (.tmp 18)⟩] [0, 3, 9, 10, 11])
        (.seq (.ops [⟨(some 19), none, .mov (.tmp 3)⟩,
            ⟨(some 20), none, .bin .lss (.tmp 19) (.const (.int .i64 0))⟩] [0, 3, 9, 10, 11, 20])
        (.cond (.tmp 20)
          (.ops [⟨(some 21), none, .mkIf 9 (.const (.string ⟨#[108, 101, 110, 32, 111, 117, 116, 32, 111, 102, 32, 114, 97, 110, 103, 101]⟩))⟩,
              ⟨none, none, .bad⟩] [0, 3, 9, 10, 11])
          (.skip))))))
      (.ops [⟨(some 22), none, .bin .add (.tmp 11) (.const (.int .i64 1))⟩,
          ⟨(some 11), none, .mov (.tmp 22)⟩] [0, 3, 9, 10, 11])))
def c28 : AFun := ⟨
  .seq (.ops [⟨(some 2), none, .mov (.const (.slice none 0 0))⟩] [0])
  (.seq (.ops [⟨(some 3), none, .mov (.const (.int .i64 0))⟩] [0, 3])
  (.seq (.seq (.ops [⟨(some 9), none, .mov (.tmp 0)⟩,
      ⟨(some 10), none, .len false (.tmp 9)⟩,
      ⟨(some 11), none, .mov (.const (.int .i64 0))⟩] [0, 3, 9, 10, 11])
  (.block 0
    (.loop [0, 3, 9, 10, 11]
      c28l1)))
  (.seq (.ops [⟨(some 23), none, .mov (.tmp 3)⟩,
      ⟨(some 24), none, .callF 33 [(.const (.slice none 0 0)), (.tmp 23)]⟩,
      ⟨(some 6), none, .mov (.tmp 24)⟩] [0, 6])
  (.seq (.seq (.ops [⟨(some 25), none, .mov (.tmp 0)⟩,
      ⟨(some 26), none, .len false (.tmp 25)⟩,
      ⟨(some 27), none, .mov (.const (.int .i64 0))⟩] [6, 25, 26, 27])
  (.block 2
    (.loop [6, 25, 26, 27]
      c28l0)))
  (.seq (.ops [⟨(some 35), none, .mov (.tmp 6)⟩,
      ⟨(some 2), none, .mov (.tmp 35)⟩] [2])
  (.ret)))))),
  36, [(2, none)], true⟩
theorem ok28 : FunOK Try.prog 28 c28 := ⟨⟨Try.f28, _, c28.code, Try.func28, rfl, by kernel_rfl, rfl, by kernel_rfl, by kernel_rfl⟩⟩
/- slices.Repeat[[]int,int] (2 operations that the interpreter lacks) -/
def c29l0 : AC :=
  .seq (.seq (.ops [⟨(some 34), none, .mov (.tmp 8)⟩,
          ⟨(some 35), none, .mov (.tmp 7)⟩,
          ⟨(some 36), none, .len false (.tmp 35)⟩,
          ⟨(some 37), none, .bin .lss (.tmp 34) (.tmp 36)⟩] [7, 8, 37])
      (.cond (.tmp 37)
        (.skip)
        (.exit 0)))
      (.block 1
        (.drawW [⟨⟨(some 38), none, .mov (.tmp 8)⟩, [], none⟩,
            ⟨⟨(some 39), none, .mov (.tmp 7)⟩, [0], none⟩,
            ⟨⟨(some 40), none, .mov (.tmp 8)⟩, [0, 1], none⟩,
            ⟨⟨(some 41), none, .slc 1 (.tmp 39) (some (.tmp 40)) none none⟩, [0], none⟩,
            ⟨⟨(some 42), none, .mov (.tmp 7)⟩, [0, 1, 2, 3], none⟩,
            ⟨⟨(some 43), none, .mov (.tmp 8)⟩, [0, 1, 2, 3, 4], none⟩,
            ⟨⟨(some 44), none, .slc 1 (.tmp 42) none (some (.tmp 43)) none⟩, [0, 1, 2, 3], none⟩,
            ⟨⟨(some 45), none, .copy 1 (.tmp 41) (.tmp 44)⟩, [0], none⟩] [⟨(some 46), none, .bin .add (.tmp 38) (.tmp 45)⟩,
            ⟨(some 8), none, .mov (.tmp 46)⟩] [7, 8]))
def c29 : AFun := ⟨
  .seq (.ops [⟨(some 4), none, .mov (.const (.slice none 0 0))⟩] [0, 1])
  (.seq (.seq (.ops [⟨(some 9), none, .mov (.tmp 1)⟩,
      ⟨(some 10), none, .bin .lss (.tmp 9) (.const (.int .i64 0))⟩] [0, 1, 10])
  (.cond (.tmp 10)
    (.ops [⟨(some 11), none, .mkIf 9 (.const (.string ⟨#[99, 97, 110, 110, 111, 116, 32, 98, 101, 32, 110, 101, 103, 97, 116, 105, 118, 101]⟩))⟩,
        ⟨none, none, .bad⟩] [0, 1])
    (.skip)))
  (.seq (.ops [⟨(some 13), none, .mov (.tmp 0)⟩,
      ⟨(some 14), none, .len false (.tmp 13)⟩,
      ⟨(some 15), none, .convI .u64 (.tmp 14)⟩,
      ⟨(some 16), none, .mov (.tmp 1)⟩,
      ⟨(some 17), none, .convI .u64 (.tmp 16)⟩,
      ⟨(some 18), none, .callF 34 [(.tmp 15), (.tmp 17)]⟩,
      ⟨(some 12), none, .mov (.tmp 18)⟩,
      ⟨(some 19), none, .ext (.tmp 12) 0⟩,
      ⟨(some 20), none, .ext (.tmp 12) 1⟩,
      ⟨(some 5), none, .mov (.tmp 19)⟩,
      ⟨(some 6), none, .mov (.tmp 20)⟩] [0, 5, 6])
  (.seq (.seq (.ops [⟨(some 21), none, .mov (.tmp 5)⟩,
      ⟨(some 22), none, .bin .gtr (.tmp 21) (.const (.int .u64 0))⟩,
      ⟨(some 23), none, .mov (.tmp 22)⟩,
      ⟨(some 24), (some (23, false)), .mov (.tmp 6)⟩,
      ⟨(some 25), (some (23, false)), .bin .gtr (.tmp 24) (.const (.int .u64 9223372036854775807))⟩,
      ⟨(some 26), none, .pick (.tmp 23) (.const (.bool true)) (.tmp 25)⟩] [0, 6, 26])
  (.cond (.tmp 26)
    (.ops [⟨(some 27), none, .mkIf 9 (.const (.string ⟨#[116, 104, 101, 32, 114, 101, 115, 117, 108, 116, 32, 111, 102, 32, 40, 108, 101, 110, 40, 120, 41, 32, 42, 32, 99, 111, 117, 110, 116, 41, 32, 111, 118, 101, 114, 102, 108, 111, 119, 115]⟩))⟩,
        ⟨none, none, .bad⟩] [0, 6])
    (.skip)))
  (.seq (.ops [⟨(some 28), none, .mov (.tmp 6)⟩,
      ⟨(some 29), none, .convI .i64 (.tmp 28)⟩,
      ⟨(some 30), none, .mkSlice 3 1 8 [(.int .i64 0)] (.tmp 29) (.tmp 29)⟩,
      ⟨(some 7), none, .mov (.tmp 30)⟩] [0, 7])
  (.seq (.ops [⟨(some 31), none, .mov (.tmp 7)⟩,
      ⟨(some 32), none, .mov (.tmp 0)⟩,
      ⟨(some 33), none, .copy 1 (.tmp 31) (.tmp 32)⟩,
      ⟨(some 8), none, .mov (.tmp 33)⟩] [7, 8])
  (.seq (.block 0
    (.loop [7, 8]
      c29l0))
  (.seq (.ops [⟨(some 47), none, .mov (.tmp 7)⟩,
      ⟨(some 4), none, .mov (.tmp 47)⟩] [4])
  (.ret)))))))),
  48, [(4, none)], true⟩
theorem ok29 : FunOK Try.prog 29 c29 := ⟨⟨Try.f29, _, c29.code, Try.func29, rfl, by kernel_rfl, rfl, by kernel_rfl, by kernel_rfl⟩⟩
/- slices.Clone[[]int,int] -/
def c30 : AFun := ⟨
  .seq (.ops [⟨(some 2), none, .mov (.const (.slice none 0 0))⟩] [0])
  (.seq (.seq (.ops [⟨(some 3), none, .mov (.tmp 0)⟩,
      ⟨(some 4), none, .eqNil 1 false (.tmp 3) (.const (.slice none 0 0))⟩] [0, 4])
  (.cond (.tmp 4)
    (.seq (.ops [⟨(some 2), none, .mov (.const (.slice none 0 0))⟩] [2])
    (.ret))
    (.skip)))
  (.seq (.ops [⟨(some 5), none, .mkRow 3 1 0 [(.int .i64 0)] []⟩,
      ⟨(some 6), none, .mov (.tmp 0)⟩,
      ⟨(some 7), none, .app 3 1 8 (.tmp 5) (.tmp 6)⟩,
      ⟨(some 2), none, .mov (.tmp 7)⟩] [2])
  (.ret))),
  8, [(2, none)], true⟩
theorem ok30 : FunOK Try.prog 30 c30 := ⟨⟨Try.f30, _, c30.code, Try.func30, rfl, by kernel_rfl, rfl, by kernel_rfl, by kernel_rfl⟩⟩
/- slices.Reverse[[]int,int] -/
def c31l0 : AC :=
  .seq (.seq (.ops [⟨(some 7), none, .mov (.tmp 2)⟩,
          ⟨(some 8), none, .mov (.tmp 3)⟩,
          ⟨(some 9), none, .bin .lss (.tmp 7) (.tmp 8)⟩] [0, 2, 3, 9])
      (.cond (.tmp 9)
        (.skip)
        (.exit 0)))
      (.seq (.block 1
        (.drawW [⟨⟨(some 14), none, .mov (.tmp 0)⟩, [], none⟩,
            ⟨⟨(some 15), none, .mov (.tmp 2)⟩, [0], none⟩,
            ⟨⟨(some 16), none, .mov (.tmp 0)⟩, [0, 1], none⟩,
            ⟨⟨(some 17), none, .mov (.tmp 3)⟩, [0, 1, 2], none⟩,
            ⟨⟨(some 18), none, .mov (.tmp 0)⟩, [0, 1, 2, 3], none⟩,
            ⟨⟨(some 19), none, .mov (.tmp 3)⟩, [0, 1, 2, 3, 4], none⟩,
            ⟨⟨(some 20), none, .idxS 1 (.tmp 18) (.tmp 19)⟩, [0, 1, 2, 3], none⟩,
            ⟨⟨(some 21), none, .load none (.tmp 20)⟩, [0, 1, 2, 3], none⟩,
            ⟨⟨(some 22), none, .mov (.tmp 0)⟩, [0, 1, 2, 3, 4, 5, 6, 7], none⟩,
            ⟨⟨(some 23), none, .mov (.tmp 2)⟩, [0, 1, 2, 3, 4, 5, 6, 7, 8], none⟩,
            ⟨⟨(some 24), none, .idxS 1 (.tmp 22) (.tmp 23)⟩, [0, 1, 2, 3, 4, 5, 6, 7], none⟩,
            ⟨⟨(some 25), none, .load none (.tmp 24)⟩, [0, 1, 2, 3, 4, 5, 6, 7], none⟩,
            ⟨⟨(some 26), none, .idxS 1 (.tmp 14) (.tmp 15)⟩, [2, 3], none⟩,
            ⟨⟨none, none, .store 1 (.tmp 26) (.tmp 21)⟩, [2, 3], none⟩] [⟨(some 27), none, .idxS 1 (.tmp 16) (.tmp 17)⟩,
            ⟨none, none, .store 1 (.tmp 27) (.tmp 25)⟩] [0, 2, 3]))
      (.ops [⟨(some 10), none, .mov (.tmp 2)⟩,
          ⟨(some 11), none, .bin .add (.tmp 10) (.const (.int .i64 1))⟩,
          ⟨(some 12), none, .mov (.tmp 3)⟩,
          ⟨(some 13), none, .bin .sub (.tmp 12) (.const (.int .i64 1))⟩,
          ⟨(some 2), none, .mov (.tmp 11)⟩,
          ⟨(some 3), none, .mov (.tmp 13)⟩] [0, 2, 3]))
def c31 : AFun := ⟨
  .seq (.ops [⟨(some 4), none, .mov (.tmp 0)⟩,
      ⟨(some 5), none, .len false (.tmp 4)⟩,
      ⟨(some 6), none, .bin .sub (.tmp 5) (.const (.int .i64 1))⟩,
      ⟨(some 2), none, .mov (.const (.int .i64 0))⟩,
      ⟨(some 3), none, .mov (.tmp 6)⟩] [0, 2, 3])
  (.block 0
    (.loop [0, 2, 3]
      c31l0)),
  28, [], false⟩
theorem ok31 : FunOK Try.prog 31 c31 := ⟨⟨Try.f31, _, c31.code, Try.func31, rfl, by kernel_rfl, rfl, by kernel_rfl, by kernel_rfl⟩⟩
/- slices.Grow[[]int,int] (1 operations that the interpreter lacks) -/
def c33 : AFun := ⟨
  .seq (.ops [⟨(some 4), none, .mov (.const (.slice none 0 0))⟩] [0, 1])
  (.seq (.seq (.ops [⟨(some 5), none, .mov (.tmp 1)⟩,
      ⟨(some 6), none, .bin .lss (.tmp 5) (.const (.int .i64 0))⟩] [0, 1, 6])
  (.cond (.tmp 6)
    (.ops [⟨(some 7), none, .mkIf 9 (.const (.string ⟨#[99, 97, 110, 110, 111, 116, 32, 98, 101, 32, 110, 101, 103, 97, 116, 105, 118, 101]⟩))⟩,
        ⟨none, none, .bad⟩] [0, 1])
    (.skip)))
  (.seq (.seq (.ops [⟨(some 8), none, .mov (.tmp 1)⟩,
      ⟨(some 9), none, .mov (.tmp 0)⟩,
      ⟨(some 10), none, .cap (.tmp 9)⟩,
      ⟨(some 11), none, .mov (.tmp 0)⟩,
      ⟨(some 12), none, .len false (.tmp 11)⟩,
      ⟨(some 13), none, .bin .sub (.tmp 10) (.tmp 12)⟩,
      ⟨(some 14), none, .bin .sub (.tmp 8) (.tmp 13)⟩,
      ⟨(some 1), none, .mov (.tmp 14)⟩] [0, 1])
  (.seq (.ops [⟨(some 15), none, .mov (.tmp 1)⟩,
      ⟨(some 16), none, .bin .gtr (.tmp 15) (.const (.int .i64 0))⟩] [0, 1, 16])
  (.cond (.tmp 16)
    (.ops [⟨(some 17), none, .mov (.tmp 0)⟩,
        ⟨(some 18), none, .mov (.tmp 0)⟩,
        ⟨(some 19), none, .cap (.tmp 18)⟩,
        ⟨(some 20), none, .slc 1 (.tmp 17) none (some (.tmp 19)) none⟩,
        ⟨(some 21), none, .mov (.tmp 1)⟩,
        ⟨(some 22), none, .appMk 3 1 8 [(.int .i64 0)] (.tmp 20) (.tmp 21)⟩,
        ⟨(some 23), none, .mov (.tmp 0)⟩,
        ⟨(some 24), none, .len false (.tmp 23)⟩,
        ⟨(some 25), none, .slc 1 (.tmp 22) none (some (.tmp 24)) none⟩,
        ⟨(some 0), none, .mov (.tmp 25)⟩] [0])
    (.skip))))
  (.seq (.ops [⟨(some 26), none, .mov (.tmp 0)⟩,
      ⟨(some 4), none, .mov (.tmp 26)⟩] [4])
  (.ret)))),
  27, [(4, none)], true⟩
theorem ok33 : FunOK Try.prog 33 c33 := ⟨⟨Try.f33, _, c33.code, Try.func33, rfl, by kernel_rfl, rfl, by kernel_rfl, by kernel_rfl⟩⟩
/- math/bits.Mul -/
def c34 : AFun := ⟨
  .seq (.ops [⟨(some 4), none, .mov (.const (.int .u64 0))⟩,
      ⟨(some 5), none, .mov (.const (.int .u64 0))⟩] [0, 1])
  (.seq (.cond (.const (.bool false))
    (.seq (.ops [⟨(some 11), none, .mov (.tmp 0)⟩,
        ⟨(some 12), none, .convI .u32 (.tmp 11)⟩,
        ⟨(some 13), none, .mov (.tmp 1)⟩,
        ⟨(some 14), none, .convI .u32 (.tmp 13)⟩,
        ⟨(some 15), none, .callF 35 [(.tmp 12), (.tmp 14)]⟩,
        ⟨(some 10), none, .mov (.tmp 15)⟩,
        ⟨(some 16), none, .ext (.tmp 10) 0⟩,
        ⟨(some 17), none, .ext (.tmp 10) 1⟩,
        ⟨(some 6), none, .mov (.tmp 16)⟩,
        ⟨(some 7), none, .mov (.tmp 17)⟩] [6, 7])
    (.seq (.ops [⟨(some 18), none, .mov (.tmp 6)⟩,
        ⟨(some 19), none, .convI .u64 (.tmp 18)⟩,
        ⟨(some 20), none, .mov (.tmp 7)⟩,
        ⟨(some 21), none, .convI .u64 (.tmp 20)⟩,
        ⟨(some 4), none, .mov (.tmp 19)⟩,
        ⟨(some 5), none, .mov (.tmp 21)⟩] [4, 5])
    (.ret)))
    (.skip))
  (.seq (.ops [⟨(some 23), none, .mov (.tmp 0)⟩,
      ⟨(some 24), none, .mov (.tmp 1)⟩,
      ⟨(some 25), none, .callF 36 [(.tmp 23), (.tmp 24)]⟩,
      ⟨(some 22), none, .mov (.tmp 25)⟩,
      ⟨(some 26), none, .ext (.tmp 22) 0⟩,
      ⟨(some 27), none, .ext (.tmp 22) 1⟩,
      ⟨(some 8), none, .mov (.tmp 26)⟩,
      ⟨(some 9), none, .mov (.tmp 27)⟩] [8, 9])
  (.seq (.ops [⟨(some 28), none, .mov (.tmp 8)⟩,
      ⟨(some 29), none, .mov (.tmp 9)⟩,
      ⟨(some 4), none, .mov (.tmp 28)⟩,
      ⟨(some 5), none, .mov (.tmp 29)⟩] [4, 5])
  (.ret)))),
  30, [(4, none), (5, none)], true⟩
theorem ok34 : FunOK Try.prog 34 c34 := ⟨⟨Try.f34, _, c34.code, Try.func34, rfl, by kernel_rfl, rfl, by kernel_rfl, by kernel_rfl⟩⟩
/- math/bits.Mul32 -/
def c35 : AFun := ⟨
  .seq (.ops [⟨(some 4), none, .mov (.const (.int .u32 0))⟩,
      ⟨(some 5), none, .mov (.const (.int .u32 0))⟩] [0, 1])
  (.seq (.ops [⟨(some 7), none, .mov (.tmp 0)⟩,
      ⟨(some 8), none, .convI .u64 (.tmp 7)⟩,
      ⟨(some 9), none, .mov (.tmp 1)⟩,
      ⟨(some 10), none, .convI .u64 (.tmp 9)⟩,
      ⟨(some 11), none, .bin .mul (.tmp 8) (.tmp 10)⟩,
      ⟨(some 6), none, .mov (.tmp 11)⟩] [6])
  (.seq (.ops [⟨(some 12), none, .mov (.tmp 6)⟩,
      ⟨(some 13), none, .bin .shr (.tmp 12) (.const (.int .u64 32))⟩,
      ⟨(some 14), none, .convI .u32 (.tmp 13)⟩,
      ⟨(some 15), none, .mov (.tmp 6)⟩,
      ⟨(some 16), none, .convI .u32 (.tmp 15)⟩,
      ⟨(some 4), none, .mov (.tmp 14)⟩,
      ⟨(some 5), none, .mov (.tmp 16)⟩] [4, 5])
  (.ret))),
  17, [(4, none), (5, none)], true⟩
theorem ok35 : FunOK Try.prog 35 c35 := ⟨⟨Try.f35, _, c35.code, Try.func35, rfl, by kernel_rfl, rfl, by kernel_rfl, by kernel_rfl⟩⟩
/- math/bits.Mul64 -/
def c36 : AFun := ⟨
  .seq (.ops [⟨(some 4), none, .mov (.const (.int .u64 0))⟩,
      ⟨(some 5), none, .mov (.const (.int .u64 0))⟩] [0, 1])
  (.seq (.ops [⟨(some 14), none, .mov (.tmp 0)⟩,
      ⟨(some 15), none, .bin .and (.tmp 14) (.const (.int .u64 4294967295))⟩,
      ⟨(some 6), none, .mov (.tmp 15)⟩] [0, 1, 6])
  (.seq (.ops [⟨(some 16), none, .mov (.tmp 0)⟩,
      ⟨(some 17), none, .bin .shr (.tmp 16) (.const (.int .u64 32))⟩,
      ⟨(some 7), none, .mov (.tmp 17)⟩] [0, 1, 6, 7])
  (.seq (.ops [⟨(some 18), none, .mov (.tmp 1)⟩,
      ⟨(some 19), none, .bin .and (.tmp 18) (.const (.int .u64 4294967295))⟩,
      ⟨(some 8), none, .mov (.tmp 19)⟩] [0, 1, 6, 7, 8])
  (.seq (.ops [⟨(some 20), none, .mov (.tmp 1)⟩,
      ⟨(some 21), none, .bin .shr (.tmp 20) (.const (.int .u64 32))⟩,
      ⟨(some 9), none, .mov (.tmp 21)⟩] [0, 1, 6, 7, 8, 9])
  (.seq (.ops [⟨(some 22), none, .mov (.tmp 6)⟩,
      ⟨(some 23), none, .mov (.tmp 8)⟩,
      ⟨(some 24), none, .bin .mul (.tmp 22) (.tmp 23)⟩,
      ⟨(some 10), none, .mov (.tmp 24)⟩] [0, 1, 6, 7, 8, 9, 10])
  (.seq (.ops [⟨(some 25), none, .mov (.tmp 7)⟩,
      ⟨(some 26), none, .mov (.tmp 8)⟩,
      ⟨(some 27), none, .bin .mul (.tmp 25) (.tmp 26)⟩,
      ⟨(some 28), none, .mov (.tmp 10)⟩,
      ⟨(some 29), none, .bin .shr (.tmp 28) (.const (.int .u64 32))⟩,
      ⟨(some 30), none, .bin .add (.tmp 27) (.tmp 29)⟩,
      ⟨(some 11), none, .mov (.tmp 30)⟩] [0, 1, 6, 7, 9, 11])
  (.seq (.ops [⟨(some 31), none, .mov (.tmp 11)⟩,
      ⟨(some 32), none, .bin .and (.tmp 31) (.const (.int .u64 4294967295))⟩,
      ⟨(some 12), none, .mov (.tmp 32)⟩] [0, 1, 6, 7, 9, 11, 12])
  (.seq (.ops [⟨(some 33), none, .mov (.tmp 11)⟩,
      ⟨(some 34), none, .bin .shr (.tmp 33) (.const (.int .u64 32))⟩,
      ⟨(some 13), none, .mov (.tmp 34)⟩] [0, 1, 6, 7, 9, 12, 13])
  (.seq (.ops [⟨(some 35), none, .mov (.tmp 12)⟩,
      ⟨(some 36), none, .mov (.tmp 6)⟩,
      ⟨(some 37), none, .mov (.tmp 9)⟩,
      ⟨(some 38), none, .bin .mul (.tmp 36) (.tmp 37)⟩,
      ⟨(some 39), none, .bin .add (.tmp 35) (.tmp 38)⟩,
      ⟨(some 12), none, .mov (.tmp 39)⟩] [0, 1, 7, 9, 12, 13])
  (.seq (.ops [⟨(some 40), none, .mov (.tmp 7)⟩,
      ⟨(some 41), none, .mov (.tmp 9)⟩,
      ⟨(some 42), none, .bin .mul (.tmp 40) (.tmp 41)⟩,
      ⟨(some 43), none, .mov (.tmp 13)⟩,
      ⟨(some 44), none, .bin .add (.tmp 42) (.tmp 43)⟩,
      ⟨(some 45), none, .mov (.tmp 12)⟩,
      ⟨(some 46), none, .bin .shr (.tmp 45) (.const (.int .u64 32))⟩,
      ⟨(some 47), none, .bin .add (.tmp 44) (.tmp 46)⟩,
      ⟨(some 4), none, .mov (.tmp 47)⟩] [0, 1, 4])
  (.seq (.ops [⟨(some 48), none, .mov (.tmp 0)⟩,
      ⟨(some 49), none, .mov (.tmp 1)⟩,
      ⟨(some 50), none, .bin .mul (.tmp 48) (.tmp 49)⟩,
      ⟨(some 5), none, .mov (.tmp 50)⟩] [4, 5])
  (.ret)))))))))))),
  51, [(4, none), (5, none)], true⟩
theorem ok36 : FunOK Try.prog 36 c36 := ⟨⟨Try.f36, _, c36.code, Try.func36, rfl, by kernel_rfl, rfl, by kernel_rfl, by kernel_rfl⟩⟩
def fns : FuncId → Option AFun
  | 4 => some c4
  | 5 => some c5
  | 10 => some c10
  | 11 => some c11
  | 12 => some c12
  | 13 => some c13
  | 14 => some c14
  | 15 => some c15
  | 16 => some c16
  | 17 => some c17
  | 18 => some c18
  | 19 => some c19
  | 20 => some c20
  | 21 => some c21
  | 22 => some c22
  | 25 => some c25
  | 26 => some c26
  | 27 => some c27
  | 28 => some c28
  | 29 => some c29
  | 30 => some c30
  | 31 => some c31
  | 33 => some c33
  | 34 => some c34
  | 35 => some c35
  | 36 => some c36
  | _ => none
theorem fns_ok : FunsOK Try.prog fns := by
  intro f af h
  unfold fns at h
  split at h
  · cases h; exact ok4
  · cases h; exact ok5
  · cases h; exact ok10
  · cases h; exact ok11
  · cases h; exact ok12
  · cases h; exact ok13
  · cases h; exact ok14
  · cases h; exact ok15
  · cases h; exact ok16
  · cases h; exact ok17
  · cases h; exact ok18
  · cases h; exact ok19
  · cases h; exact ok20
  · cases h; exact ok21
  · cases h; exact ok22
  · cases h; exact ok25
  · cases h; exact ok26
  · cases h; exact ok27
  · cases h; exact ok28
  · cases h; exact ok29
  · cases h; exact ok30
  · cases h; exact ok31
  · cases h; exact ok33
  · cases h; exact ok34
  · cases h; exact ok35
  · cases h; exact ok36
  · cases h
end Go.Proofs.Ytkjkiodoighgnaa
namespace Go.Proofs.Ytkjkiodoighgnaa
open Go Go.Itp
set_option maxRecDepth 100000
set_option maxHeartbeats 1000000
set_option linter.unusedSimpArgs false
abbrev EN (w : World) (n : Nat) : Env := callP (oldOf w) many fns (fun _ _ _ => none) n
def rowD (p : Nat × List Int) : D := .sl p.1 p.2.length (p.2.map iD)
theorem rowD_dv (p : Nat × List Int) : dv (rowD p) = .sl p.1 p.2.length (p.2.map iD) := (rfl)
def col (x : Int) : Bool := decide (0 ≤ x) && decide (x < 400)
def chk (l : List Int) : Int := if 400 < l.length then 4 else if l.all col then 0 else 8
def chkL : List (Nat × List Int) → Int
  | [] => 0
  | p :: r => if chk p.2 = 0 then chkL r else chk p.2
theorem chkL_step {L : List (Nat × List Int)} {k : Nat} (hk : k < L.length) : chkL (L.drop k) = if chk L[k]!.2 = 0 then chkL (L.drop (k + 1)) else chk L[k]!.2 := by
  rw [List.drop_eq_getElem_cons hk, getElem!_pos L k hk]
  rfl
theorem all_end {l : List Int} (h : ∀ j, j < l.length → col l[j]! = true) : l.all col = true := by
  rw [List.all_eq_true]
  intro x hx
  obtain ⟨j, hj, rfl⟩ := List.getElem_of_mem hx
  have := h j hj
  rwa [getElem!_pos l j hj] at this
theorem all_at {l : List Int} {k : Nat} (hk : k < l.length) (h2 : col l[k]! = false) : l.all col = false := by
  rw [← Bool.not_eq_true, List.all_eq_true]
  intro h
  rw [getElem!_pos l k hk] at h2
  rw [h _ (List.getElem_mem hk)] at h2
  cases h2
theorem eq_of_all {a l : List Int} (h : a.length = l.length) (ha : ∀ j, j < l.length → a[j]! = l[j]!) : a = l := by
  refine List.ext_getElem h fun i h1 h2 => ?_
  have := ha i h2
  rwa [getElem!_pos a i h1, getElem!_pos l i h2] at this
def greatF (l : List Int) : Bool := (decide (60 < l.length) && decide (l.length ≤ 400)) || decide (420 < l.length)
def rangedF (n m : Int) : Bool := decide (1 ≤ n) && decide (n ≤ 400) && decide (0 ≤ m) && decide (m ≤ 400)
section
variable (w : World) (n : Nat)
theorem great_p (s : Nat) (l : List Int) (hl : l.length ≤ 140737488351232) : VSpec (EN w (n + 1)) 5 [.sl s l.length (l.map iD)] (.sc (.bool (greatF l))) ⟨[], 0, 0⟩ := by
  refine vspec_flat rfl rfl (fun _ _ => rfl) (Nat.le_of_ble_eq_true rfl) (oldVals w) rfl fun C hC h0 => ?_
  have e : greatF l = ((decide (60 < l.length) && decide (l.length ≤ 400)) || decide (420 < l.length)) := rfl
  by_cases h1 : 60 < l.length <;> by_cases h2 : l.length ≤ 400 <;> by_cases h3 : 420 < l.length
  all_goals
    simp only [h1, h2, h3, decide_true, decide_false, Bool.and_true, Bool.and_false, Bool.true_and, Bool.false_and, Bool.or_true, Bool.or_false, Bool.true_or, Bool.false_or] at e
    rw [e]
    first
    | (exfalso; omega)
    | (repeat' (first | (simp (disch := first | omega | assumption | (refine @id ((_ : Bool) = _) ?_; exact id (by with_unfolding_all rfl)) | (exact Or.inl rfl) | (exact Or.inl trivial) | (exact okL_map _ (fun _ => rfl) _) | (simp only [List.length_map, List.length_set, List.length_replicate, List.length_cons, List.length_nil, List.length_append] <;> omega) | fail) only [VV0, VV1, VV2, VV3, VV4, VV5, VV6, VV7, mkFnV, vargs, slotsL, opdsA, not_true_eq_false, not_false_eq_true, decide_true, decide_false, Option.map_some, Option.bind_some, List.cons_append, List.nil_append, List.map_cons, List.map_nil, List.append_nil, Option.toList_some, Option.toList_none, Nat.reduceEqDiff, Nat.reduceLT, Nat.reduceAdd, Nat.reduceBEq, Int.reduceAdd, Int.reduceSub, Int.reduceLT, Int.reduceLE, Int.reduceEq, Int.reduceNeg, ↓reduceIte, if_true, if_false, Bool.false_eq_true, Bool.not_true, Bool.not_false, List.length_cons, List.length_nil, List.length_singleton, reduceCtorEq, Int.toNat_natCast, Nat.zero_add, Nat.add_zero, Nat.mul_one, Int.add_sub_cancel, eq_self, List.drop_zero, List.drop_succ_cons, Option.some.injEq, Prod.mk.injEq, Bool.and_true, Bool.true_and, Bool.and_self, true_or, List.set_cons_zero, List.set_cons_succ, scL, scD, expand, List.replicate, c5]) | (refine gC_drawW ?_) | (refine gI_dec (fun _ => ?_) (fun _ => ?_)) | (refine gG_dec (fun _ => ?_) (fun _ => ?_)) | (refine gPG_dec (fun _ => ?_) (fun _ => ?_)) | (refine gI_var (fun _ => ?_) (fun _ => ?_)) | (refine gG_var (fun _ => ?_) (fun _ => ?_)) | (refine gPG_var (fun _ => ?_) (fun _ => ?_)))
       exact weak_flat rfl h0 rfl)
theorem ranged_p (a b : Int) : VSpec (EN w (n + 1)) 26 [.sc (.int .i64 a), .sc (.int .i64 b)] (.sc (.bool (rangedF a b))) ⟨[], 0, 0⟩ := by
  refine vspec_flat rfl rfl (fun _ _ => rfl) (Nat.le_of_ble_eq_true rfl) (oldVals w) rfl fun C hC h0 => ?_
  have e : rangedF a b = (decide (1 ≤ a) && decide (a ≤ 400) && decide (0 ≤ b) && decide (b ≤ 400)) := rfl
  by_cases h1 : 1 ≤ a <;> by_cases h2 : a ≤ 400 <;> by_cases h3 : 0 ≤ b <;> by_cases h4 : b ≤ 400
  all_goals
    simp only [h1, h2, h3, h4, decide_true, decide_false, Bool.and_true, Bool.and_false, Bool.true_and, Bool.false_and] at e
    rw [e]
    first
    | (exfalso; omega)
    | (by_cases h5 : max a b ≤ 400
       all_goals
         first
         | (exfalso; omega)
         | (repeat' (first | (simp (disch := first | omega | assumption | (refine @id ((_ : Bool) = _) ?_; exact id (by with_unfolding_all rfl)) | (exact Or.inl rfl) | (exact Or.inl trivial) | (exact okL_map _ (fun _ => rfl) _) | (simp only [List.length_map, List.length_set, List.length_replicate, List.length_cons, List.length_nil, List.length_append] <;> omega) | fail) only [VV0, VV1, VV2, VV3, VV4, VV5, VV6, VV7, mkFnV, vargs, slotsL, opdsA, not_true_eq_false, not_false_eq_true, decide_true, decide_false, Option.map_some, Option.bind_some, List.cons_append, List.nil_append, List.map_cons, List.map_nil, List.append_nil, Option.toList_some, Option.toList_none, Nat.reduceEqDiff, Nat.reduceLT, Nat.reduceAdd, Nat.reduceBEq, Int.reduceAdd, Int.reduceSub, Int.reduceLT, Int.reduceLE, Int.reduceEq, Int.reduceNeg, ↓reduceIte, if_true, if_false, Bool.false_eq_true, Bool.not_true, Bool.not_false, List.length_cons, List.length_nil, List.length_singleton, reduceCtorEq, Int.toNat_natCast, Nat.zero_add, Nat.add_zero, Nat.mul_one, Int.add_sub_cancel, eq_self, List.drop_zero, List.drop_succ_cons, Option.some.injEq, Prod.mk.injEq, Bool.and_true, Bool.true_and, Bool.and_self, true_or, List.set_cons_zero, List.set_cons_succ, scL, scD, expand, List.replicate, c26]) | (refine gC_drawW ?_) | (refine gI_dec (fun _ => ?_) (fun _ => ?_)) | (refine gG_dec (fun _ => ?_) (fun _ => ?_)) | (refine gPG_dec (fun _ => ?_) (fun _ => ?_)) | (refine gI_var (fun _ => ?_) (fun _ => ?_)) | (refine gG_var (fun _ => ?_) (fun _ => ?_)) | (refine gPG_var (fun _ => ?_) (fun _ => ?_)))
            exact weak_flat rfl h0 rfl))
theorem rranged_p (a b : Int) : VSpec (EN w (n + 1)) 27 [.sc (.int .i64 a), .sc (.int .i64 b)] (.sc (.bool (rangedF a b))) ⟨[], 0, 0⟩ := by
  refine vspec_flat rfl rfl (fun _ _ => rfl) (Nat.le_of_ble_eq_true rfl) (oldVals w) rfl fun C hC h0 => ?_
  have e : rangedF a b = (decide (1 ≤ a) && decide (a ≤ 400) && decide (0 ≤ b) && decide (b ≤ 400)) := rfl
  by_cases h1 : 1 ≤ a <;> by_cases h2 : a ≤ 400 <;> by_cases h3 : 0 ≤ b <;> by_cases h4 : b ≤ 400
  all_goals
    simp only [h1, h2, h3, h4, decide_true, decide_false, Bool.and_true, Bool.and_false, Bool.true_and, Bool.false_and] at e
    rw [e]
    first
    | (exfalso; omega)
    | (repeat' (first | (simp (disch := first | omega | assumption | (refine @id ((_ : Bool) = _) ?_; exact id (by with_unfolding_all rfl)) | (exact Or.inl rfl) | (exact Or.inl trivial) | (exact okL_map _ (fun _ => rfl) _) | (simp only [List.length_map, List.length_set, List.length_replicate, List.length_cons, List.length_nil, List.length_append] <;> omega) | fail) only [VV0, VV1, VV2, VV3, VV4, VV5, VV6, VV7, mkFnV, vargs, slotsL, opdsA, not_true_eq_false, not_false_eq_true, decide_true, decide_false, Option.map_some, Option.bind_some, List.cons_append, List.nil_append, List.map_cons, List.map_nil, List.append_nil, Option.toList_some, Option.toList_none, Nat.reduceEqDiff, Nat.reduceLT, Nat.reduceAdd, Nat.reduceBEq, Int.reduceAdd, Int.reduceSub, Int.reduceLT, Int.reduceLE, Int.reduceEq, Int.reduceNeg, ↓reduceIte, if_true, if_false, Bool.false_eq_true, Bool.not_true, Bool.not_false, List.length_cons, List.length_nil, List.length_singleton, reduceCtorEq, Int.toNat_natCast, Nat.zero_add, Nat.add_zero, Nat.mul_one, Int.add_sub_cancel, eq_self, List.drop_zero, List.drop_succ_cons, Option.some.injEq, Prod.mk.injEq, Bool.and_true, Bool.true_and, Bool.and_self, true_or, List.set_cons_zero, List.set_cons_succ, scL, scD, expand, List.replicate, c27]) | (refine gC_drawW ?_) | (refine gI_dec (fun _ => ?_) (fun _ => ?_)) | (refine gG_dec (fun _ => ?_) (fun _ => ?_)) | (refine gPG_dec (fun _ => ?_) (fun _ => ?_)) | (refine gI_var (fun _ => ?_) (fun _ => ?_)) | (refine gG_var (fun _ => ?_) (fun _ => ?_)) | (refine gPG_var (fun _ => ?_) (fun _ => ?_)))
       exact weak_flat rfl h0 rfl)
theorem rcheck_p (s : Nat) (l : List Int) (hl : l.length ≤ 140737488351232) : VSpec (EN w (n + 1)) 22 [.sl s l.length (l.map iD)] (.sc (.int .i64 (chk l))) ⟨[], 0, 0⟩ := by
  refine vspec_flat rfl rfl (fun _ _ => rfl) (Nat.le_of_ble_eq_true rfl) (oldVals w) rfl fun C hC h0 => ?_
  by_cases h4 : 400 < l.length
  · have e : chk l = 4 := if_pos h4
    rw [e]
    repeat' (first | (simp (disch := first | omega | assumption | (refine @id ((_ : Bool) = _) ?_; exact id (by with_unfolding_all rfl)) | (exact Or.inl rfl) | (exact Or.inl trivial) | (exact okL_map _ (fun _ => rfl) _) | (simp only [List.length_map, List.length_set, List.length_replicate, List.length_cons, List.length_nil, List.length_append] <;> omega) | fail) only [VV0, VV1, VV2, VV3, VV4, VV5, VV6, VV7, mkFnV, vargs, slotsL, opdsA, not_true_eq_false, not_false_eq_true, decide_true, decide_false, Option.map_some, Option.bind_some, List.cons_append, List.nil_append, List.map_cons, List.map_nil, List.append_nil, Option.toList_some, Option.toList_none, Nat.reduceEqDiff, Nat.reduceLT, Nat.reduceAdd, Nat.reduceBEq, Int.reduceAdd, Int.reduceSub, Int.reduceLT, Int.reduceLE, Int.reduceEq, Int.reduceNeg, ↓reduceIte, if_true, if_false, Bool.false_eq_true, Bool.not_true, Bool.not_false, List.length_cons, List.length_nil, List.length_singleton, reduceCtorEq, Int.toNat_natCast, Nat.zero_add, Nat.add_zero, Nat.mul_one, Int.add_sub_cancel, eq_self, List.drop_zero, List.drop_succ_cons, Option.some.injEq, Prod.mk.injEq, Bool.and_true, Bool.true_and, Bool.and_self, true_or, List.set_cons_zero, List.set_cons_succ, scL, scD, expand, List.replicate, c22]) | (refine gC_drawW ?_) | (refine gI_dec (fun _ => ?_) (fun _ => ?_)) | (refine gG_dec (fun _ => ?_) (fun _ => ?_)) | (refine gPG_dec (fun _ => ?_) (fun _ => ?_)) | (refine gI_var (fun _ => ?_) (fun _ => ?_)) | (refine gG_var (fun _ => ?_) (fun _ => ?_)) | (refine gPG_var (fun _ => ?_) (fun _ => ?_)))
    exact weak_flat rfl h0 rfl
  have e : chk l = if l.all col then 0 else 8 := if_neg h4
  rw [e]
  simp (disch := first | omega | assumption | (refine @id ((_ : Bool) = _) ?_; exact id (by with_unfolding_all rfl)) | (exact Or.inl rfl) | (exact Or.inl trivial) | (exact okL_map _ (fun _ => rfl) _) | (simp only [List.length_map, List.length_set, List.length_replicate, List.length_cons, List.length_nil, List.length_append] <;> omega) | fail) only [VV0, VV1, VV2, VV3, VV4, VV5, VV6, VV7, mkFnV, vargs, slotsL, opdsA, not_true_eq_false, not_false_eq_true, decide_true, decide_false, Option.map_some, Option.bind_some, List.cons_append, List.nil_append, List.map_cons, List.map_nil, List.append_nil, Option.toList_some, Option.toList_none, Nat.reduceEqDiff, Nat.reduceLT, Nat.reduceAdd, Nat.reduceBEq, Int.reduceAdd, Int.reduceSub, Int.reduceLT, Int.reduceLE, Int.reduceEq, Int.reduceNeg, ↓reduceIte, if_true, if_false, Bool.false_eq_true, Bool.not_true, Bool.not_false, List.length_cons, List.length_nil, List.length_singleton, reduceCtorEq, Int.toNat_natCast, Nat.zero_add, Nat.add_zero, Nat.mul_one, Int.add_sub_cancel, eq_self, List.drop_zero, List.drop_succ_cons, Option.some.injEq, Prod.mk.injEq, Bool.and_true, Bool.true_and, Bool.and_self, true_or, List.set_cons_zero, List.set_cons_succ, scL, scD, expand, List.replicate, c22]
  refine g_while (fun m fr st => ∃ k : Nat, m = l.length - k ∧ k ≤ l.length ∧ (∀ j, j < k → col l[j]! = true) ∧ fr = [(0, .sl s l.length (l.map iD)), (3, .sc (.int .i64 k))] ∧ st = ⟨[], 0, 0⟩) l.length ?_ ⟨_, _, .refl _ _, 0, ?_⟩ ?_
  · rw [hC, callP_rounds]; unfold many; omega
  · exact ⟨by omega, by omega, (fun j hj => absurd hj (Nat.not_lt_zero _)), rfl, rfl⟩
  · rintro m fr st ⟨k, rfl, hk, ha, rfl, rfl⟩
    by_cases hlt : k < l.length
    · cases hc : col l[k]!
      · rw [if_neg (by rw [all_at hlt hc]; exact Bool.false_ne_true)]
        have hc' : ¬ (0 ≤ l[k]! ∧ l[k]! < 400) := by
          intro h
          have : col l[k]! = true := by unfold col; rw [Bool.and_eq_true]; exact ⟨decide_eq_true h.1, decide_eq_true h.2⟩
          rw [hc] at this; cases this
        generalize hx : l[k]! = x at hc'
        by_cases h1 : x < 0
        · repeat' (first | (simp (disch := first | omega | assumption | (refine @id ((_ : Bool) = _) ?_; exact id (by with_unfolding_all rfl)) | (exact Or.inl rfl) | (exact Or.inl trivial) | (exact okL_map _ (fun _ => rfl) _) | (simp only [List.length_map, List.length_set, List.length_replicate, List.length_cons, List.length_nil, List.length_append] <;> omega) | fail) only [VV0, VV1, VV2, VV3, VV4, VV5, VV6, VV7, mkFnV, vargs, slotsL, opdsA, not_true_eq_false, not_false_eq_true, decide_true, decide_false, Option.map_some, Option.bind_some, List.cons_append, List.nil_append, List.map_cons, List.map_nil, List.append_nil, Option.toList_some, Option.toList_none, Nat.reduceEqDiff, Nat.reduceLT, Nat.reduceAdd, Nat.reduceBEq, Int.reduceAdd, Int.reduceSub, Int.reduceLT, Int.reduceLE, Int.reduceEq, Int.reduceNeg, ↓reduceIte, if_true, if_false, Bool.false_eq_true, Bool.not_true, Bool.not_false, List.length_cons, List.length_nil, List.length_singleton, reduceCtorEq, Int.toNat_natCast, Nat.zero_add, Nat.add_zero, Nat.mul_one, Int.add_sub_cancel, eq_self, List.drop_zero, List.drop_succ_cons, Option.some.injEq, Prod.mk.injEq, Bool.and_true, Bool.true_and, Bool.and_self, true_or, List.set_cons_zero, List.set_cons_succ, scL, scD, expand, List.replicate, c22l0, iD_dv, hx]) | (refine gC_drawW ?_) | (refine gI_dec (fun _ => ?_) (fun _ => ?_)) | (refine gG_dec (fun _ => ?_) (fun _ => ?_)) | (refine gPG_dec (fun _ => ?_) (fun _ => ?_)) | (refine gI_var (fun _ => ?_) (fun _ => ?_)) | (refine gG_var (fun _ => ?_) (fun _ => ?_)) | (refine gPG_var (fun _ => ?_) (fun _ => ?_)))
          exact weak_flat rfl h0 rfl
        · have h2 : 400 ≤ x := by omega
          repeat' (first | (simp (disch := first | omega | assumption | (refine @id ((_ : Bool) = _) ?_; exact id (by with_unfolding_all rfl)) | (exact Or.inl rfl) | (exact Or.inl trivial) | (exact okL_map _ (fun _ => rfl) _) | (simp only [List.length_map, List.length_set, List.length_replicate, List.length_cons, List.length_nil, List.length_append] <;> omega) | fail) only [VV0, VV1, VV2, VV3, VV4, VV5, VV6, VV7, mkFnV, vargs, slotsL, opdsA, not_true_eq_false, not_false_eq_true, decide_true, decide_false, Option.map_some, Option.bind_some, List.cons_append, List.nil_append, List.map_cons, List.map_nil, List.append_nil, Option.toList_some, Option.toList_none, Nat.reduceEqDiff, Nat.reduceLT, Nat.reduceAdd, Nat.reduceBEq, Int.reduceAdd, Int.reduceSub, Int.reduceLT, Int.reduceLE, Int.reduceEq, Int.reduceNeg, ↓reduceIte, if_true, if_false, Bool.false_eq_true, Bool.not_true, Bool.not_false, List.length_cons, List.length_nil, List.length_singleton, reduceCtorEq, Int.toNat_natCast, Nat.zero_add, Nat.add_zero, Nat.mul_one, Int.add_sub_cancel, eq_self, List.drop_zero, List.drop_succ_cons, Option.some.injEq, Prod.mk.injEq, Bool.and_true, Bool.true_and, Bool.and_self, true_or, List.set_cons_zero, List.set_cons_succ, scL, scD, expand, List.replicate, c22l0, iD_dv, hx]) | (refine gC_drawW ?_) | (refine gI_dec (fun _ => ?_) (fun _ => ?_)) | (refine gG_dec (fun _ => ?_) (fun _ => ?_)) | (refine gPG_dec (fun _ => ?_) (fun _ => ?_)) | (refine gI_var (fun _ => ?_) (fun _ => ?_)) | (refine gG_var (fun _ => ?_) (fun _ => ?_)) | (refine gPG_var (fun _ => ?_) (fun _ => ?_)))
          exact weak_flat rfl h0 rfl
      · have hc' : 0 ≤ l[k]! ∧ l[k]! < 400 := by simpa [col] using hc
        have hn : ∀ j, j < k + 1 → col l[j]! = true := (fun j hj => by rcases Nat.lt_succ_iff_lt_or_eq.1 hj with h | h; exact ha j h; subst h; exact hc)
        generalize hx : l[k]! = x at hc'
        have h1 : ¬ x < 0 := by omega
        have h2 : ¬ 400 ≤ x := by omega
        repeat' (first | (simp (disch := first | omega | assumption | (refine @id ((_ : Bool) = _) ?_; exact id (by with_unfolding_all rfl)) | (exact Or.inl rfl) | (exact Or.inl trivial) | (exact okL_map _ (fun _ => rfl) _) | (simp only [List.length_map, List.length_set, List.length_replicate, List.length_cons, List.length_nil, List.length_append] <;> omega) | fail) only [VV0, VV1, VV2, VV3, VV4, VV5, VV6, VV7, mkFnV, vargs, slotsL, opdsA, not_true_eq_false, not_false_eq_true, decide_true, decide_false, Option.map_some, Option.bind_some, List.cons_append, List.nil_append, List.map_cons, List.map_nil, List.append_nil, Option.toList_some, Option.toList_none, Nat.reduceEqDiff, Nat.reduceLT, Nat.reduceAdd, Nat.reduceBEq, Int.reduceAdd, Int.reduceSub, Int.reduceLT, Int.reduceLE, Int.reduceEq, Int.reduceNeg, ↓reduceIte, if_true, if_false, Bool.false_eq_true, Bool.not_true, Bool.not_false, List.length_cons, List.length_nil, List.length_singleton, reduceCtorEq, Int.toNat_natCast, Nat.zero_add, Nat.add_zero, Nat.mul_one, Int.add_sub_cancel, eq_self, List.drop_zero, List.drop_succ_cons, Option.some.injEq, Prod.mk.injEq, Bool.and_true, Bool.true_and, Bool.and_self, true_or, List.set_cons_zero, List.set_cons_succ, scL, scD, expand, List.replicate, c22l0, iD_dv, hx]) | (refine gC_drawW ?_) | (refine gI_dec (fun _ => ?_) (fun _ => ?_)) | (refine gG_dec (fun _ => ?_) (fun _ => ?_)) | (refine gPG_dec (fun _ => ?_) (fun _ => ?_)) | (refine gI_var (fun _ => ?_) (fun _ => ?_)) | (refine gG_var (fun _ => ?_) (fun _ => ?_)) | (refine gPG_var (fun _ => ?_) (fun _ => ?_)))
        exact ⟨_, _, _, by omega, .refl _ _, k + 1, rfl, hlt, hn, rfl, rfl⟩
    · have : k = l.length := by omega
      subst this
      rw [if_pos (all_end ha)]
      repeat' (first | (simp (disch := first | omega | assumption | (refine @id ((_ : Bool) = _) ?_; exact id (by with_unfolding_all rfl)) | (exact Or.inl rfl) | (exact Or.inl trivial) | (exact okL_map _ (fun _ => rfl) _) | (simp only [List.length_map, List.length_set, List.length_replicate, List.length_cons, List.length_nil, List.length_append] <;> omega) | fail) only [VV0, VV1, VV2, VV3, VV4, VV5, VV6, VV7, mkFnV, vargs, slotsL, opdsA, not_true_eq_false, not_false_eq_true, decide_true, decide_false, Option.map_some, Option.bind_some, List.cons_append, List.nil_append, List.map_cons, List.map_nil, List.append_nil, Option.toList_some, Option.toList_none, Nat.reduceEqDiff, Nat.reduceLT, Nat.reduceAdd, Nat.reduceBEq, Int.reduceAdd, Int.reduceSub, Int.reduceLT, Int.reduceLE, Int.reduceEq, Int.reduceNeg, ↓reduceIte, if_true, if_false, Bool.false_eq_true, Bool.not_true, Bool.not_false, List.length_cons, List.length_nil, List.length_singleton, reduceCtorEq, Int.toNat_natCast, Nat.zero_add, Nat.add_zero, Nat.mul_one, Int.add_sub_cancel, eq_self, List.drop_zero, List.drop_succ_cons, Option.some.injEq, Prod.mk.injEq, Bool.and_true, Bool.true_and, Bool.and_self, true_or, List.set_cons_zero, List.set_cons_succ, scL, scD, expand, List.replicate, c22l0, iD_dv]) | (refine gC_drawW ?_) | (refine gI_dec (fun _ => ?_) (fun _ => ?_)) | (refine gG_dec (fun _ => ?_) (fun _ => ?_)) | (refine gPG_dec (fun _ => ?_) (fun _ => ?_)) | (refine gI_var (fun _ => ?_) (fun _ => ?_)) | (refine gG_var (fun _ => ?_) (fun _ => ?_)) | (refine gPG_var (fun _ => ?_) (fun _ => ?_)))
      exact weak_flat rfl h0 rfl
theorem both_p (s s' : Nat) (a b : List Int) (ha : a.length ≤ 140737488351232) (hb : b.length ≤ 140737488351232) : VSpec (EN w (n + 2)) 25 [.sl s a.length (a.map iD), .sl s' b.length (b.map iD)] (.sc (.int .i64 (chkL [(s, a), (s', b)]))) ⟨[], 0, 0⟩ := by
  refine vspec_flat rfl rfl (fun _ _ => rfl) (Nat.le_of_ble_eq_true rfl) (oldVals w) rfl fun C hC h0 => ?_
  have hca := fun st => (rcheck_p w n s a ha).of hC rfl st rfl
  have hcb := fun st => (rcheck_p w n s' b hb).of hC rfl st rfl
  have e : chkL [(s, a), (s', b)] = if chk a = 0 then chk b else chk a := by
    simp only [chkL]
    split
    · split
      · rename_i h; exact h.symm
      · rfl
    · rfl
  rw [e]
  repeat' (first | (simp (disch := first | omega | assumption | (refine @id ((_ : Bool) = _) ?_; exact id (by with_unfolding_all rfl)) | (exact Or.inl rfl) | (exact Or.inl trivial) | (exact okL_map _ (fun _ => rfl) _) | (simp only [List.length_map, List.length_set, List.length_replicate, List.length_cons, List.length_nil, List.length_append] <;> omega) | fail) only [VV0, VV1, VV2, VV3, VV4, VV5, VV6, VV7, mkFnV, vargs, slotsL, opdsA, not_true_eq_false, not_false_eq_true, decide_true, decide_false, Option.map_some, Option.bind_some, List.cons_append, List.nil_append, List.map_cons, List.map_nil, List.append_nil, Option.toList_some, Option.toList_none, Nat.reduceEqDiff, Nat.reduceLT, Nat.reduceAdd, Nat.reduceBEq, Int.reduceAdd, Int.reduceSub, Int.reduceLT, Int.reduceLE, Int.reduceEq, Int.reduceNeg, ↓reduceIte, if_true, if_false, Bool.false_eq_true, Bool.not_true, Bool.not_false, List.length_cons, List.length_nil, List.length_singleton, reduceCtorEq, Int.toNat_natCast, Nat.zero_add, Nat.add_zero, Nat.mul_one, Int.add_sub_cancel, eq_self, List.drop_zero, List.drop_succ_cons, Option.some.injEq, Prod.mk.injEq, Bool.and_true, Bool.true_and, Bool.and_self, true_or, List.set_cons_zero, List.set_cons_succ, scL, scD, expand, List.replicate, c25]) | (refine gC_drawW ?_) | (refine gI_dec (fun _ => ?_) (fun _ => ?_)) | (refine gG_dec (fun _ => ?_) (fun _ => ?_)) | (refine gPG_dec (fun _ => ?_) (fun _ => ?_)) | (refine gI_var (fun _ => ?_) (fun _ => ?_)) | (refine gG_var (fun _ => ?_) (fun _ => ?_)) | (refine gPG_var (fun _ => ?_) (fun _ => ?_)))
  refine callV_flat (hca _) ?_
  by_cases h1 : chk a = 0
  · rw [if_pos h1]
    repeat' (first | (simp (disch := first | omega | assumption | (refine @id ((_ : Bool) = _) ?_; exact id (by with_unfolding_all rfl)) | (exact Or.inl rfl) | (exact Or.inl trivial) | (exact okL_map _ (fun _ => rfl) _) | (simp only [List.length_map, List.length_set, List.length_replicate, List.length_cons, List.length_nil, List.length_append] <;> omega) | fail) only [VV0, VV1, VV2, VV3, VV4, VV5, VV6, VV7, mkFnV, vargs, slotsL, opdsA, not_true_eq_false, not_false_eq_true, decide_true, decide_false, Option.map_some, Option.bind_some, List.cons_append, List.nil_append, List.map_cons, List.map_nil, List.append_nil, Option.toList_some, Option.toList_none, Nat.reduceEqDiff, Nat.reduceLT, Nat.reduceAdd, Nat.reduceBEq, Int.reduceAdd, Int.reduceSub, Int.reduceLT, Int.reduceLE, Int.reduceEq, Int.reduceNeg, ↓reduceIte, if_true, if_false, Bool.false_eq_true, Bool.not_true, Bool.not_false, List.length_cons, List.length_nil, List.length_singleton, reduceCtorEq, Int.toNat_natCast, Nat.zero_add, Nat.add_zero, Nat.mul_one, Int.add_sub_cancel, eq_self, List.drop_zero, List.drop_succ_cons, Option.some.injEq, Prod.mk.injEq, Bool.and_true, Bool.true_and, Bool.and_self, true_or, List.set_cons_zero, List.set_cons_succ, scL, scD, expand, List.replicate, h1]) | (refine gC_drawW ?_) | (refine gI_dec (fun _ => ?_) (fun _ => ?_)) | (refine gG_dec (fun _ => ?_) (fun _ => ?_)) | (refine gPG_dec (fun _ => ?_) (fun _ => ?_)) | (refine gI_var (fun _ => ?_) (fun _ => ?_)) | (refine gG_var (fun _ => ?_) (fun _ => ?_)) | (refine gPG_var (fun _ => ?_) (fun _ => ?_)))
    refine callV_flat (hcb _) ?_
    repeat' (first | (simp (disch := first | omega | assumption | (refine @id ((_ : Bool) = _) ?_; exact id (by with_unfolding_all rfl)) | (exact Or.inl rfl) | (exact Or.inl trivial) | (exact okL_map _ (fun _ => rfl) _) | (simp only [List.length_map, List.length_set, List.length_replicate, List.length_cons, List.length_nil, List.length_append] <;> omega) | fail) only [VV0, VV1, VV2, VV3, VV4, VV5, VV6, VV7, mkFnV, vargs, slotsL, opdsA, not_true_eq_false, not_false_eq_true, decide_true, decide_false, Option.map_some, Option.bind_some, List.cons_append, List.nil_append, List.map_cons, List.map_nil, List.append_nil, Option.toList_some, Option.toList_none, Nat.reduceEqDiff, Nat.reduceLT, Nat.reduceAdd, Nat.reduceBEq, Int.reduceAdd, Int.reduceSub, Int.reduceLT, Int.reduceLE, Int.reduceEq, Int.reduceNeg, ↓reduceIte, if_true, if_false, Bool.false_eq_true, Bool.not_true, Bool.not_false, List.length_cons, List.length_nil, List.length_singleton, reduceCtorEq, Int.toNat_natCast, Nat.zero_add, Nat.add_zero, Nat.mul_one, Int.add_sub_cancel, eq_self, List.drop_zero, List.drop_succ_cons, Option.some.injEq, Prod.mk.injEq, Bool.and_true, Bool.true_and, Bool.and_self, true_or, List.set_cons_zero, List.set_cons_succ, scL, scD, expand, List.replicate]) | (refine gC_drawW ?_) | (refine gI_dec (fun _ => ?_) (fun _ => ?_)) | (refine gG_dec (fun _ => ?_) (fun _ => ?_)) | (refine gPG_dec (fun _ => ?_) (fun _ => ?_)) | (refine gI_var (fun _ => ?_) (fun _ => ?_)) | (refine gG_var (fun _ => ?_) (fun _ => ?_)) | (refine gPG_var (fun _ => ?_) (fun _ => ?_)))
    exact weak_flat rfl h0 rfl
  · rw [if_neg h1]
    repeat' (first | (simp (disch := first | omega | assumption | (refine @id ((_ : Bool) = _) ?_; exact id (by with_unfolding_all rfl)) | (exact Or.inl rfl) | (exact Or.inl trivial) | (exact okL_map _ (fun _ => rfl) _) | (simp only [List.length_map, List.length_set, List.length_replicate, List.length_cons, List.length_nil, List.length_append] <;> omega) | fail) only [VV0, VV1, VV2, VV3, VV4, VV5, VV6, VV7, mkFnV, vargs, slotsL, opdsA, not_true_eq_false, not_false_eq_true, decide_true, decide_false, Option.map_some, Option.bind_some, List.cons_append, List.nil_append, List.map_cons, List.map_nil, List.append_nil, Option.toList_some, Option.toList_none, Nat.reduceEqDiff, Nat.reduceLT, Nat.reduceAdd, Nat.reduceBEq, Int.reduceAdd, Int.reduceSub, Int.reduceLT, Int.reduceLE, Int.reduceEq, Int.reduceNeg, ↓reduceIte, if_true, if_false, Bool.false_eq_true, Bool.not_true, Bool.not_false, List.length_cons, List.length_nil, List.length_singleton, reduceCtorEq, Int.toNat_natCast, Nat.zero_add, Nat.add_zero, Nat.mul_one, Int.add_sub_cancel, eq_self, List.drop_zero, List.drop_succ_cons, Option.some.injEq, Prod.mk.injEq, Bool.and_true, Bool.true_and, Bool.and_self, true_or, List.set_cons_zero, List.set_cons_succ, scL, scD, expand, List.replicate]) | (refine gC_drawW ?_) | (refine gI_dec (fun _ => ?_) (fun _ => ?_)) | (refine gG_dec (fun _ => ?_) (fun _ => ?_)) | (refine gPG_dec (fun _ => ?_) (fun _ => ?_)) | (refine gI_var (fun _ => ?_) (fun _ => ?_)) | (refine gG_var (fun _ => ?_) (fun _ => ?_)) | (refine gPG_var (fun _ => ?_) (fun _ => ?_)))
    refine callV_flat (hca _) ?_
    repeat' (first | (simp (disch := first | omega | assumption | (refine @id ((_ : Bool) = _) ?_; exact id (by with_unfolding_all rfl)) | (exact Or.inl rfl) | (exact Or.inl trivial) | (exact okL_map _ (fun _ => rfl) _) | (simp only [List.length_map, List.length_set, List.length_replicate, List.length_cons, List.length_nil, List.length_append] <;> omega) | fail) only [VV0, VV1, VV2, VV3, VV4, VV5, VV6, VV7, mkFnV, vargs, slotsL, opdsA, not_true_eq_false, not_false_eq_true, decide_true, decide_false, Option.map_some, Option.bind_some, List.cons_append, List.nil_append, List.map_cons, List.map_nil, List.append_nil, Option.toList_some, Option.toList_none, Nat.reduceEqDiff, Nat.reduceLT, Nat.reduceAdd, Nat.reduceBEq, Int.reduceAdd, Int.reduceSub, Int.reduceLT, Int.reduceLE, Int.reduceEq, Int.reduceNeg, ↓reduceIte, if_true, if_false, Bool.false_eq_true, Bool.not_true, Bool.not_false, List.length_cons, List.length_nil, List.length_singleton, reduceCtorEq, Int.toNat_natCast, Nat.zero_add, Nat.add_zero, Nat.mul_one, Int.add_sub_cancel, eq_self, List.drop_zero, List.drop_succ_cons, Option.some.injEq, Prod.mk.injEq, Bool.and_true, Bool.true_and, Bool.and_self, true_or, List.set_cons_zero, List.set_cons_succ, scL, scD, expand, List.replicate]) | (refine gC_drawW ?_) | (refine gI_dec (fun _ => ?_) (fun _ => ?_)) | (refine gG_dec (fun _ => ?_) (fun _ => ?_)) | (refine gPG_dec (fun _ => ?_) (fun _ => ?_)) | (refine gI_var (fun _ => ?_) (fun _ => ?_)) | (refine gG_var (fun _ => ?_) (fun _ => ?_)) | (refine gPG_var (fun _ => ?_) (fun _ => ?_)))
    exact weak_flat rfl h0 rfl
theorem check_p (L : List (Nat × List Int)) (hL : L.length ≤ 1000) (hl : ∀ k, k < L.length → L[k]!.2.length ≤ 140737488351232) : VSpec (EN w (n + 1)) 21 [.sl 0 L.length (L.map rowD)] (.sc (.int .i64 (chkL L))) ⟨[], 0, 0⟩ := by
  refine vspec_flat rfl rfl (fun _ _ => rfl) (Nat.le_of_ble_eq_true rfl) (oldVals w) rfl fun C hC h0 => ?_
  simp (disch := first | omega | assumption | (refine @id ((_ : Bool) = _) ?_; exact id (by with_unfolding_all rfl)) | (exact Or.inl rfl) | (exact Or.inl trivial) | (exact okL_map _ (fun _ => rfl) _) | (simp only [List.length_map, List.length_set, List.length_replicate, List.length_cons, List.length_nil, List.length_append] <;> omega) | fail) only [VV0, VV1, VV2, VV3, VV4, VV5, VV6, VV7, mkFnV, vargs, slotsL, opdsA, not_true_eq_false, not_false_eq_true, decide_true, decide_false, Option.map_some, Option.bind_some, List.cons_append, List.nil_append, List.map_cons, List.map_nil, List.append_nil, Option.toList_some, Option.toList_none, Nat.reduceEqDiff, Nat.reduceLT, Nat.reduceAdd, Nat.reduceBEq, Int.reduceAdd, Int.reduceSub, Int.reduceLT, Int.reduceLE, Int.reduceEq, Int.reduceNeg, ↓reduceIte, if_true, if_false, Bool.false_eq_true, Bool.not_true, Bool.not_false, List.length_cons, List.length_nil, List.length_singleton, reduceCtorEq, Int.toNat_natCast, Nat.zero_add, Nat.add_zero, Nat.mul_one, Int.add_sub_cancel, eq_self, List.drop_zero, List.drop_succ_cons, Option.some.injEq, Prod.mk.injEq, Bool.and_true, Bool.true_and, Bool.and_self, true_or, List.set_cons_zero, List.set_cons_succ, scL, scD, expand, List.replicate, c21]
  refine g_while (fun m fr st => ∃ k : Nat, m = L.length - k ∧ k ≤ L.length ∧ chkL L = chkL (L.drop k) ∧ fr = [(7, .sl 0 L.length (L.map rowD)), (8, .sc (.int .i64 L.length)), (9, .sc (.int .i64 k))] ∧ st = ⟨[], 0, 0⟩) L.length ?_ ⟨_, _, .refl _ _, 0, ?_⟩ ?_
  · rw [hC, callP_rounds]; unfold many; omega
  · exact ⟨by omega, by omega, rfl, rfl, rfl⟩
  · rintro m fr st ⟨k, rfl, hk, ha, rfl, rfl⟩
    by_cases hlt : k < L.length
    · have hlk := hl k hlt
      have hst := chkL_step hlt
      rw [hst] at ha
      generalize hp : L[k]! = p at hlk ha
      obtain ⟨s, l⟩ := p
      simp only at hlk ha
      by_cases h4 : 400 < l.length
      · have e : chk l = 4 := if_pos h4
        rw [e, if_neg (by decide)] at ha
        rw [ha]
        repeat' (first | (simp (disch := first | omega | assumption | (refine @id ((_ : Bool) = _) ?_; exact id (by with_unfolding_all rfl)) | (exact Or.inl rfl) | (exact Or.inl trivial) | (exact okL_map _ (fun _ => rfl) _) | (simp only [List.length_map, List.length_set, List.length_replicate, List.length_cons, List.length_nil, List.length_append] <;> omega) | fail) only [VV0, VV1, VV2, VV3, VV4, VV5, VV6, VV7, mkFnV, vargs, slotsL, opdsA, not_true_eq_false, not_false_eq_true, decide_true, decide_false, Option.map_some, Option.bind_some, List.cons_append, List.nil_append, List.map_cons, List.map_nil, List.append_nil, Option.toList_some, Option.toList_none, Nat.reduceEqDiff, Nat.reduceLT, Nat.reduceAdd, Nat.reduceBEq, Int.reduceAdd, Int.reduceSub, Int.reduceLT, Int.reduceLE, Int.reduceEq, Int.reduceNeg, ↓reduceIte, if_true, if_false, Bool.false_eq_true, Bool.not_true, Bool.not_false, List.length_cons, List.length_nil, List.length_singleton, reduceCtorEq, Int.toNat_natCast, Nat.zero_add, Nat.add_zero, Nat.mul_one, Int.add_sub_cancel, eq_self, List.drop_zero, List.drop_succ_cons, Option.some.injEq, Prod.mk.injEq, Bool.and_true, Bool.true_and, Bool.and_self, true_or, List.set_cons_zero, List.set_cons_succ, scL, scD, expand, List.replicate, c21l1, rowD_dv, hp]) | (refine gC_drawW ?_) | (refine gI_dec (fun _ => ?_) (fun _ => ?_)) | (refine gG_dec (fun _ => ?_) (fun _ => ?_)) | (refine gPG_dec (fun _ => ?_) (fun _ => ?_)) | (refine gI_var (fun _ => ?_) (fun _ => ?_)) | (refine gG_var (fun _ => ?_) (fun _ => ?_)) | (refine gPG_var (fun _ => ?_) (fun _ => ?_)))
        exact weak_flat rfl h0 rfl
      have e : chk l = if l.all col then 0 else 8 := if_neg h4
      repeat' (first | (simp (disch := first | omega | assumption | (refine @id ((_ : Bool) = _) ?_; exact id (by with_unfolding_all rfl)) | (exact Or.inl rfl) | (exact Or.inl trivial) | (exact okL_map _ (fun _ => rfl) _) | (simp only [List.length_map, List.length_set, List.length_replicate, List.length_cons, List.length_nil, List.length_append] <;> omega) | fail) only [VV0, VV1, VV2, VV3, VV4, VV5, VV6, VV7, mkFnV, vargs, slotsL, opdsA, not_true_eq_false, not_false_eq_true, decide_true, decide_false, Option.map_some, Option.bind_some, List.cons_append, List.nil_append, List.map_cons, List.map_nil, List.append_nil, Option.toList_some, Option.toList_none, Nat.reduceEqDiff, Nat.reduceLT, Nat.reduceAdd, Nat.reduceBEq, Int.reduceAdd, Int.reduceSub, Int.reduceLT, Int.reduceLE, Int.reduceEq, Int.reduceNeg, ↓reduceIte, if_true, if_false, Bool.false_eq_true, Bool.not_true, Bool.not_false, List.length_cons, List.length_nil, List.length_singleton, reduceCtorEq, Int.toNat_natCast, Nat.zero_add, Nat.add_zero, Nat.mul_one, Int.add_sub_cancel, eq_self, List.drop_zero, List.drop_succ_cons, Option.some.injEq, Prod.mk.injEq, Bool.and_true, Bool.true_and, Bool.and_self, true_or, List.set_cons_zero, List.set_cons_succ, scL, scD, expand, List.replicate, c21l1, rowD_dv, hp]) | (refine gC_drawW ?_) | (refine gI_dec (fun _ => ?_) (fun _ => ?_)) | (refine gG_dec (fun _ => ?_) (fun _ => ?_)) | (refine gPG_dec (fun _ => ?_) (fun _ => ?_)) | (refine gI_var (fun _ => ?_) (fun _ => ?_)) | (refine gG_var (fun _ => ?_) (fun _ => ?_)) | (refine gPG_var (fun _ => ?_) (fun _ => ?_)))
      refine g_while (fun m fr st => ∃ j : Nat, m = l.length - j ∧ j ≤ l.length ∧ (∀ i, i < j → col l[i]! = true) ∧ fr = [(7, .sl 0 L.length (L.map rowD)), (8, .sc (.int .i64 L.length)), (9, .sc (.int .i64 k)), (16, .sl s l.length (l.map iD)), (17, .sc (.int .i64 l.length)), (18, .sc (.int .i64 j))] ∧ st = ⟨[], 0, 0⟩) l.length ?_ ⟨_, _, .refl _ _, 0, ?_⟩ ?_
      · rw [hC, callP_rounds]; unfold many; omega
      · exact ⟨by omega, by omega, (fun j hj => absurd hj (Nat.not_lt_zero _)), rfl, rfl⟩
      · rintro m fr st ⟨j, rfl, hj, hb, rfl, rfl⟩
        by_cases hlj : j < l.length
        · cases hc : col l[j]!
          · rw [e, show (if l.all col = true then (0 : Int) else 8) = 8 from if_neg (by rw [all_at hlj hc]; exact Bool.false_ne_true), if_neg (by decide)] at ha
            rw [ha]
            have hc' : ¬ (0 ≤ l[j]! ∧ l[j]! < 400) := by
              intro h
              have : col l[j]! = true := by unfold col; rw [Bool.and_eq_true]; exact ⟨decide_eq_true h.1, decide_eq_true h.2⟩
              rw [hc] at this; cases this
            generalize hx : l[j]! = x at hc'
            by_cases h1 : x < 0
            · repeat' (first | (simp (disch := first | omega | assumption | (refine @id ((_ : Bool) = _) ?_; exact id (by with_unfolding_all rfl)) | (exact Or.inl rfl) | (exact Or.inl trivial) | (exact okL_map _ (fun _ => rfl) _) | (simp only [List.length_map, List.length_set, List.length_replicate, List.length_cons, List.length_nil, List.length_append] <;> omega) | fail) only [VV0, VV1, VV2, VV3, VV4, VV5, VV6, VV7, mkFnV, vargs, slotsL, opdsA, not_true_eq_false, not_false_eq_true, decide_true, decide_false, Option.map_some, Option.bind_some, List.cons_append, List.nil_append, List.map_cons, List.map_nil, List.append_nil, Option.toList_some, Option.toList_none, Nat.reduceEqDiff, Nat.reduceLT, Nat.reduceAdd, Nat.reduceBEq, Int.reduceAdd, Int.reduceSub, Int.reduceLT, Int.reduceLE, Int.reduceEq, Int.reduceNeg, ↓reduceIte, if_true, if_false, Bool.false_eq_true, Bool.not_true, Bool.not_false, List.length_cons, List.length_nil, List.length_singleton, reduceCtorEq, Int.toNat_natCast, Nat.zero_add, Nat.add_zero, Nat.mul_one, Int.add_sub_cancel, eq_self, List.drop_zero, List.drop_succ_cons, Option.some.injEq, Prod.mk.injEq, Bool.and_true, Bool.true_and, Bool.and_self, true_or, List.set_cons_zero, List.set_cons_succ, scL, scD, expand, List.replicate, c21l0, iD_dv, hx]) | (refine gC_drawW ?_) | (refine gI_dec (fun _ => ?_) (fun _ => ?_)) | (refine gG_dec (fun _ => ?_) (fun _ => ?_)) | (refine gPG_dec (fun _ => ?_) (fun _ => ?_)) | (refine gI_var (fun _ => ?_) (fun _ => ?_)) | (refine gG_var (fun _ => ?_) (fun _ => ?_)) | (refine gPG_var (fun _ => ?_) (fun _ => ?_)))
              exact weak_flat rfl h0 rfl
            · have h2 : 400 ≤ x := by omega
              repeat' (first | (simp (disch := first | omega | assumption | (refine @id ((_ : Bool) = _) ?_; exact id (by with_unfolding_all rfl)) | (exact Or.inl rfl) | (exact Or.inl trivial) | (exact okL_map _ (fun _ => rfl) _) | (simp only [List.length_map, List.length_set, List.length_replicate, List.length_cons, List.length_nil, List.length_append] <;> omega) | fail) only [VV0, VV1, VV2, VV3, VV4, VV5, VV6, VV7, mkFnV, vargs, slotsL, opdsA, not_true_eq_false, not_false_eq_true, decide_true, decide_false, Option.map_some, Option.bind_some, List.cons_append, List.nil_append, List.map_cons, List.map_nil, List.append_nil, Option.toList_some, Option.toList_none, Nat.reduceEqDiff, Nat.reduceLT, Nat.reduceAdd, Nat.reduceBEq, Int.reduceAdd, Int.reduceSub, Int.reduceLT, Int.reduceLE, Int.reduceEq, Int.reduceNeg, ↓reduceIte, if_true, if_false, Bool.false_eq_true, Bool.not_true, Bool.not_false, List.length_cons, List.length_nil, List.length_singleton, reduceCtorEq, Int.toNat_natCast, Nat.zero_add, Nat.add_zero, Nat.mul_one, Int.add_sub_cancel, eq_self, List.drop_zero, List.drop_succ_cons, Option.some.injEq, Prod.mk.injEq, Bool.and_true, Bool.true_and, Bool.and_self, true_or, List.set_cons_zero, List.set_cons_succ, scL, scD, expand, List.replicate, c21l0, iD_dv, hx]) | (refine gC_drawW ?_) | (refine gI_dec (fun _ => ?_) (fun _ => ?_)) | (refine gG_dec (fun _ => ?_) (fun _ => ?_)) | (refine gPG_dec (fun _ => ?_) (fun _ => ?_)) | (refine gI_var (fun _ => ?_) (fun _ => ?_)) | (refine gG_var (fun _ => ?_) (fun _ => ?_)) | (refine gPG_var (fun _ => ?_) (fun _ => ?_)))
              exact weak_flat rfl h0 rfl
          · have hc' : 0 ≤ l[j]! ∧ l[j]! < 400 := by simpa [col] using hc
            have hn : ∀ i, i < j + 1 → col l[i]! = true := (fun i hi => by rcases Nat.lt_succ_iff_lt_or_eq.1 hi with h | h; exact hb i h; subst h; exact hc)
            generalize hx : l[j]! = x at hc'
            have h1 : ¬ x < 0 := by omega
            have h2 : ¬ 400 ≤ x := by omega
            repeat' (first | (simp (disch := first | omega | assumption | (refine @id ((_ : Bool) = _) ?_; exact id (by with_unfolding_all rfl)) | (exact Or.inl rfl) | (exact Or.inl trivial) | (exact okL_map _ (fun _ => rfl) _) | (simp only [List.length_map, List.length_set, List.length_replicate, List.length_cons, List.length_nil, List.length_append] <;> omega) | fail) only [VV0, VV1, VV2, VV3, VV4, VV5, VV6, VV7, mkFnV, vargs, slotsL, opdsA, not_true_eq_false, not_false_eq_true, decide_true, decide_false, Option.map_some, Option.bind_some, List.cons_append, List.nil_append, List.map_cons, List.map_nil, List.append_nil, Option.toList_some, Option.toList_none, Nat.reduceEqDiff, Nat.reduceLT, Nat.reduceAdd, Nat.reduceBEq, Int.reduceAdd, Int.reduceSub, Int.reduceLT, Int.reduceLE, Int.reduceEq, Int.reduceNeg, ↓reduceIte, if_true, if_false, Bool.false_eq_true, Bool.not_true, Bool.not_false, List.length_cons, List.length_nil, List.length_singleton, reduceCtorEq, Int.toNat_natCast, Nat.zero_add, Nat.add_zero, Nat.mul_one, Int.add_sub_cancel, eq_self, List.drop_zero, List.drop_succ_cons, Option.some.injEq, Prod.mk.injEq, Bool.and_true, Bool.true_and, Bool.and_self, true_or, List.set_cons_zero, List.set_cons_succ, scL, scD, expand, List.replicate, c21l0, iD_dv, hx]) | (refine gC_drawW ?_) | (refine gI_dec (fun _ => ?_) (fun _ => ?_)) | (refine gG_dec (fun _ => ?_) (fun _ => ?_)) | (refine gPG_dec (fun _ => ?_) (fun _ => ?_)) | (refine gI_var (fun _ => ?_) (fun _ => ?_)) | (refine gG_var (fun _ => ?_) (fun _ => ?_)) | (refine gPG_var (fun _ => ?_) (fun _ => ?_)))
            exact ⟨_, _, _, by omega, .refl _ _, j + 1, rfl, hlj, hn, rfl, rfl⟩
        · have : j = l.length := by omega
          subst this
          rw [e, show (if l.all col = true then (0 : Int) else 8) = 0 from if_pos (all_end hb), if_pos rfl] at ha
          repeat' (first | (simp (disch := first | omega | assumption | (refine @id ((_ : Bool) = _) ?_; exact id (by with_unfolding_all rfl)) | (exact Or.inl rfl) | (exact Or.inl trivial) | (exact okL_map _ (fun _ => rfl) _) | (simp only [List.length_map, List.length_set, List.length_replicate, List.length_cons, List.length_nil, List.length_append] <;> omega) | fail) only [VV0, VV1, VV2, VV3, VV4, VV5, VV6, VV7, mkFnV, vargs, slotsL, opdsA, not_true_eq_false, not_false_eq_true, decide_true, decide_false, Option.map_some, Option.bind_some, List.cons_append, List.nil_append, List.map_cons, List.map_nil, List.append_nil, Option.toList_some, Option.toList_none, Nat.reduceEqDiff, Nat.reduceLT, Nat.reduceAdd, Nat.reduceBEq, Int.reduceAdd, Int.reduceSub, Int.reduceLT, Int.reduceLE, Int.reduceEq, Int.reduceNeg, ↓reduceIte, if_true, if_false, Bool.false_eq_true, Bool.not_true, Bool.not_false, List.length_cons, List.length_nil, List.length_singleton, reduceCtorEq, Int.toNat_natCast, Nat.zero_add, Nat.add_zero, Nat.mul_one, Int.add_sub_cancel, eq_self, List.drop_zero, List.drop_succ_cons, Option.some.injEq, Prod.mk.injEq, Bool.and_true, Bool.true_and, Bool.and_self, true_or, List.set_cons_zero, List.set_cons_succ, scL, scD, expand, List.replicate, c21l0, iD_dv]) | (refine gC_drawW ?_) | (refine gI_dec (fun _ => ?_) (fun _ => ?_)) | (refine gG_dec (fun _ => ?_) (fun _ => ?_)) | (refine gPG_dec (fun _ => ?_) (fun _ => ?_)) | (refine gI_var (fun _ => ?_) (fun _ => ?_)) | (refine gG_var (fun _ => ?_) (fun _ => ?_)) | (refine gPG_var (fun _ => ?_) (fun _ => ?_)))
          exact ⟨_, _, _, by omega, .refl _ _, k + 1, rfl, hlt, ha, rfl, rfl⟩
    · have : k = L.length := by omega
      subst this
      rw [List.drop_length] at ha
      rw [ha]
      repeat' (first | (simp (disch := first | omega | assumption | (refine @id ((_ : Bool) = _) ?_; exact id (by with_unfolding_all rfl)) | (exact Or.inl rfl) | (exact Or.inl trivial) | (exact okL_map _ (fun _ => rfl) _) | (simp only [List.length_map, List.length_set, List.length_replicate, List.length_cons, List.length_nil, List.length_append] <;> omega) | fail) only [VV0, VV1, VV2, VV3, VV4, VV5, VV6, VV7, mkFnV, vargs, slotsL, opdsA, not_true_eq_false, not_false_eq_true, decide_true, decide_false, Option.map_some, Option.bind_some, List.cons_append, List.nil_append, List.map_cons, List.map_nil, List.append_nil, Option.toList_some, Option.toList_none, Nat.reduceEqDiff, Nat.reduceLT, Nat.reduceAdd, Nat.reduceBEq, Int.reduceAdd, Int.reduceSub, Int.reduceLT, Int.reduceLE, Int.reduceEq, Int.reduceNeg, ↓reduceIte, if_true, if_false, Bool.false_eq_true, Bool.not_true, Bool.not_false, List.length_cons, List.length_nil, List.length_singleton, reduceCtorEq, Int.toNat_natCast, Nat.zero_add, Nat.add_zero, Nat.mul_one, Int.add_sub_cancel, eq_self, List.drop_zero, List.drop_succ_cons, Option.some.injEq, Prod.mk.injEq, Bool.and_true, Bool.true_and, Bool.and_self, true_or, List.set_cons_zero, List.set_cons_succ, scL, scD, expand, List.replicate, c21l1]) | (refine gC_drawW ?_) | (refine gI_dec (fun _ => ?_) (fun _ => ?_)) | (refine gG_dec (fun _ => ?_) (fun _ => ?_)) | (refine gPG_dec (fun _ => ?_) (fun _ => ?_)) | (refine gI_var (fun _ => ?_) (fun _ => ?_)) | (refine gG_var (fun _ => ?_) (fun _ => ?_)) | (refine gPG_var (fun _ => ?_) (fun _ => ?_)))
      exact weak_flat rfl h0 rfl
theorem same_r (st : VSt) (v u : V) (a b : List Int) (hv : RdV st v a) (hu : RdV st u b) (ha : a.length ≤ 140737488351232) (hb : b.length ≤ 140737488351232) : VSpecO (EN w (n + 1)) 10 st [v, u] (.sc (.bool (decide (a = b)))) := by
  refine vspecO_g rfl rfl (fun _ _ => rfl) (Nat.le_of_ble_eq_true rfl) rfl fun C hC h0 => ⟨⟨st.own, st.next, st.next⟩, ?_⟩
  obtain ⟨p, hp⟩ := hv.rdv
  obtain ⟨q, hq⟩ := hu.rdv
  by_cases hlen : (a.length : Int) = (b.length : Int)
  case neg =>
    rw [decide_eq_false (fun h => hlen (by rw [h]))]
    repeat' (first | (simp (disch := first | omega | assumption | (refine @id ((_ : Bool) = _) ?_; exact id (by with_unfolding_all rfl)) | (exact Or.inl rfl) | (exact Or.inl trivial) | (exact okL_map _ (fun _ => rfl) _) | (simp only [List.length_map, List.length_set, List.length_replicate, List.length_cons, List.length_nil, List.length_append] <;> omega) | fail) only [VV0, VV1, VV2, VV3, VV4, VV5, VV6, VV7, mkFnV, vargs, slotsL, opdsA, not_true_eq_false, not_false_eq_true, decide_true, decide_false, Option.map_some, Option.bind_some, List.cons_append, List.nil_append, List.map_cons, List.map_nil, List.append_nil, Option.toList_some, Option.toList_none, Nat.reduceEqDiff, Nat.reduceLT, Nat.reduceAdd, Nat.reduceBEq, Int.reduceAdd, Int.reduceSub, Int.reduceLT, Int.reduceLE, Int.reduceEq, Int.reduceNeg, ↓reduceIte, if_true, if_false, Bool.false_eq_true, Bool.not_true, Bool.not_false, List.length_cons, List.length_nil, List.length_singleton, reduceCtorEq, Int.toNat_natCast, Nat.zero_add, Nat.add_zero, Nat.mul_one, Int.add_sub_cancel, eq_self, List.drop_zero, List.drop_succ_cons, Option.some.injEq, Prod.mk.injEq, Bool.and_true, Bool.true_and, Bool.and_self, true_or, List.set_cons_zero, List.set_cons_succ, scL, scD, expand, List.replicate, c10, hp.len, hq.len]) | (refine gC_drawW ?_) | (refine gI_dec (fun _ => ?_) (fun _ => ?_)) | (refine gG_dec (fun _ => ?_) (fun _ => ?_)) | (refine gPG_dec (fun _ => ?_) (fun _ => ?_)) | (refine gI_var (fun _ => ?_) (fun _ => ?_)) | (refine gG_var (fun _ => ?_) (fun _ => ?_)) | (refine gPG_var (fun _ => ?_) (fun _ => ?_)))
    all_goals first | exact .refl _ _ | exact absurd ‹(a.length : Int) = (b.length : Int)› hlen
  have hlen' : a.length = b.length := by omega
  repeat' (first | (simp (disch := first | omega | assumption | (refine @id ((_ : Bool) = _) ?_; exact id (by with_unfolding_all rfl)) | (exact Or.inl rfl) | (exact Or.inl trivial) | (exact okL_map _ (fun _ => rfl) _) | (simp only [List.length_map, List.length_set, List.length_replicate, List.length_cons, List.length_nil, List.length_append] <;> omega) | fail) only [VV0, VV1, VV2, VV3, VV4, VV5, VV6, VV7, mkFnV, vargs, slotsL, opdsA, not_true_eq_false, not_false_eq_true, decide_true, decide_false, Option.map_some, Option.bind_some, List.cons_append, List.nil_append, List.map_cons, List.map_nil, List.append_nil, Option.toList_some, Option.toList_none, Nat.reduceEqDiff, Nat.reduceLT, Nat.reduceAdd, Nat.reduceBEq, Int.reduceAdd, Int.reduceSub, Int.reduceLT, Int.reduceLE, Int.reduceEq, Int.reduceNeg, ↓reduceIte, if_true, if_false, Bool.false_eq_true, Bool.not_true, Bool.not_false, List.length_cons, List.length_nil, List.length_singleton, reduceCtorEq, Int.toNat_natCast, Nat.zero_add, Nat.add_zero, Nat.mul_one, Int.add_sub_cancel, eq_self, List.drop_zero, List.drop_succ_cons, Option.some.injEq, Prod.mk.injEq, Bool.and_true, Bool.true_and, Bool.and_self, true_or, List.set_cons_zero, List.set_cons_succ, scL, scD, expand, List.replicate, c10, hp.len, hq.len]) | (refine gC_drawW ?_) | (refine gI_dec (fun _ => ?_) (fun _ => ?_)) | (refine gG_dec (fun _ => ?_) (fun _ => ?_)) | (refine gPG_dec (fun _ => ?_) (fun _ => ?_)) | (refine gI_var (fun _ => ?_) (fun _ => ?_)) | (refine gG_var (fun _ => ?_) (fun _ => ?_)) | (refine gPG_var (fun _ => ?_) (fun _ => ?_)))
  refine g_while (fun m fr t => ∃ k : Nat, m = b.length - k ∧ k ≤ b.length ∧ (∀ j, j < k → a[j]! = b[j]!) ∧ fr = [(0, v), (1, u), (5, .sc (.int .i64 k))] ∧ t = ⟨st.own, st.next, st.next⟩) b.length ?_ ⟨_, _, .refl _ _, 0, by omega, by omega, (fun j hj => absurd hj (Nat.not_lt_zero _)), rfl, rfl⟩ ?_
  · rw [hC, callP_rounds]; unfold many; omega
  · rintro m fr t ⟨k, rfl, hk, hj, rfl, rfl⟩
    by_cases hlt : k < b.length
    · have hka : k < a.length := by omega
      by_cases he : a[k]! = b[k]!
      · repeat' (first | (simp (disch := first | omega | assumption | (refine @id ((_ : Bool) = _) ?_; exact id (by with_unfolding_all rfl)) | (exact Or.inl rfl) | (exact Or.inl trivial) | (exact okL_map _ (fun _ => rfl) _) | (simp only [List.length_map, List.length_set, List.length_replicate, List.length_cons, List.length_nil, List.length_append] <;> omega) | fail) only [VV0, VV1, VV2, VV3, VV4, VV5, VV6, VV7, mkFnV, vargs, slotsL, opdsA, not_true_eq_false, not_false_eq_true, decide_true, decide_false, Option.map_some, Option.bind_some, List.cons_append, List.nil_append, List.map_cons, List.map_nil, List.append_nil, Option.toList_some, Option.toList_none, Nat.reduceEqDiff, Nat.reduceLT, Nat.reduceAdd, Nat.reduceBEq, Int.reduceAdd, Int.reduceSub, Int.reduceLT, Int.reduceLE, Int.reduceEq, Int.reduceNeg, ↓reduceIte, if_true, if_false, Bool.false_eq_true, Bool.not_true, Bool.not_false, List.length_cons, List.length_nil, List.length_singleton, reduceCtorEq, Int.toNat_natCast, Nat.zero_add, Nat.add_zero, Nat.mul_one, Int.add_sub_cancel, eq_self, List.drop_zero, List.drop_succ_cons, Option.some.injEq, Prod.mk.injEq, Bool.and_true, Bool.true_and, Bool.and_self, true_or, List.set_cons_zero, List.set_cons_succ, scL, scD, expand, List.replicate, c10l0, hp.len, hp.idx, hp.ld, hq.idx, hq.ld, he]) | (refine gC_drawW ?_) | (refine gI_dec (fun _ => ?_) (fun _ => ?_)) | (refine gG_dec (fun _ => ?_) (fun _ => ?_)) | (refine gPG_dec (fun _ => ?_) (fun _ => ?_)) | (refine gI_var (fun _ => ?_) (fun _ => ?_)) | (refine gG_var (fun _ => ?_) (fun _ => ?_)) | (refine gPG_var (fun _ => ?_) (fun _ => ?_)))
        exact ⟨_, _, _, by omega, .refl _ _, k + 1, rfl, hlt, (fun j h => by rcases Nat.lt_succ_iff_lt_or_eq.1 h with h | h; exact hj j h; subst h; exact he), rfl, rfl⟩
      · rw [decide_eq_false (fun h => he (by rw [h]))]
        repeat' (first | (simp (disch := first | omega | assumption | (refine @id ((_ : Bool) = _) ?_; exact id (by with_unfolding_all rfl)) | (exact Or.inl rfl) | (exact Or.inl trivial) | (exact okL_map _ (fun _ => rfl) _) | (simp only [List.length_map, List.length_set, List.length_replicate, List.length_cons, List.length_nil, List.length_append] <;> omega) | fail) only [VV0, VV1, VV2, VV3, VV4, VV5, VV6, VV7, mkFnV, vargs, slotsL, opdsA, not_true_eq_false, not_false_eq_true, decide_true, decide_false, Option.map_some, Option.bind_some, List.cons_append, List.nil_append, List.map_cons, List.map_nil, List.append_nil, Option.toList_some, Option.toList_none, Nat.reduceEqDiff, Nat.reduceLT, Nat.reduceAdd, Nat.reduceBEq, Int.reduceAdd, Int.reduceSub, Int.reduceLT, Int.reduceLE, Int.reduceEq, Int.reduceNeg, ↓reduceIte, if_true, if_false, Bool.false_eq_true, Bool.not_true, Bool.not_false, List.length_cons, List.length_nil, List.length_singleton, reduceCtorEq, Int.toNat_natCast, Nat.zero_add, Nat.add_zero, Nat.mul_one, Int.add_sub_cancel, eq_self, List.drop_zero, List.drop_succ_cons, Option.some.injEq, Prod.mk.injEq, Bool.and_true, Bool.true_and, Bool.and_self, true_or, List.set_cons_zero, List.set_cons_succ, scL, scD, expand, List.replicate, c10l0, hp.len, hp.idx, hp.ld, hq.idx, hq.ld]) | (refine gC_drawW ?_) | (refine gI_dec (fun _ => ?_) (fun _ => ?_)) | (refine gG_dec (fun _ => ?_) (fun _ => ?_)) | (refine gPG_dec (fun _ => ?_) (fun _ => ?_)) | (refine gI_var (fun _ => ?_) (fun _ => ?_)) | (refine gG_var (fun _ => ?_) (fun _ => ?_)) | (refine gPG_var (fun _ => ?_) (fun _ => ?_)))
        all_goals first | exact .refl _ _ | exact absurd ‹a[k]! = b[k]!› he
    · have : k = b.length := by omega
      subst this
      rw [decide_eq_true (eq_of_all hlen' hj)]
      repeat' (first | (simp (disch := first | omega | assumption | (refine @id ((_ : Bool) = _) ?_; exact id (by with_unfolding_all rfl)) | (exact Or.inl rfl) | (exact Or.inl trivial) | (exact okL_map _ (fun _ => rfl) _) | (simp only [List.length_map, List.length_set, List.length_replicate, List.length_cons, List.length_nil, List.length_append] <;> omega) | fail) only [VV0, VV1, VV2, VV3, VV4, VV5, VV6, VV7, mkFnV, vargs, slotsL, opdsA, not_true_eq_false, not_false_eq_true, decide_true, decide_false, Option.map_some, Option.bind_some, List.cons_append, List.nil_append, List.map_cons, List.map_nil, List.append_nil, Option.toList_some, Option.toList_none, Nat.reduceEqDiff, Nat.reduceLT, Nat.reduceAdd, Nat.reduceBEq, Int.reduceAdd, Int.reduceSub, Int.reduceLT, Int.reduceLE, Int.reduceEq, Int.reduceNeg, ↓reduceIte, if_true, if_false, Bool.false_eq_true, Bool.not_true, Bool.not_false, List.length_cons, List.length_nil, List.length_singleton, reduceCtorEq, Int.toNat_natCast, Nat.zero_add, Nat.add_zero, Nat.mul_one, Int.add_sub_cancel, eq_self, List.drop_zero, List.drop_succ_cons, Option.some.injEq, Prod.mk.injEq, Bool.and_true, Bool.true_and, Bool.and_self, true_or, List.set_cons_zero, List.set_cons_succ, scL, scD, expand, List.replicate, c10l0, hp.len]) | (refine gC_drawW ?_) | (refine gI_dec (fun _ => ?_) (fun _ => ?_)) | (refine gG_dec (fun _ => ?_) (fun _ => ?_)) | (refine gPG_dec (fun _ => ?_) (fun _ => ?_)) | (refine gI_var (fun _ => ?_) (fun _ => ?_)) | (refine gG_var (fun _ => ?_) (fun _ => ?_)) | (refine gPG_var (fun _ => ?_) (fun _ => ?_)))
      exact .refl _ _
end
end Go.Proofs.Ytkjkiodoighgnaa
namespace Go.Proofs.Ytkjkiodoighgnaa
open Go Go.Itp
set_option maxRecDepth 100000
set_option maxHeartbeats 1000000
set_option linter.unusedSimpArgs false
abbrev finV (r : List Int × Int) : V := .tup [.sl 3 r.1.length (r.1.map iD), .sc (.int .i64 r.2)]
def straightF (n m : Int) : List Int × Int := if rangedF n m = true then ((List.range m.toNat).map fun i => ((i % n.toNat : Nat) : Int), 0) else ([], 2)
def ptF (N i : Nat) : Int := ((min (i % max 1 (2 * N - 2)) (max 1 (2 * N - 2) - i % max 1 (2 * N - 2)) : Nat) : Int)
def pointedF (n m : Int) : List Int × Int := if rangedF n m = true then ((List.range m.toNat).map fun i => ptF n.toNat i, 0) else ([], 2)
theorem ranged_nat {a b : Int} (h : rangedF a b = true) : ∃ N M : Nat, a = N ∧ b = M ∧ 1 ≤ N ∧ N ≤ 400 ∧ M ≤ 400 := by
  simp only [rangedF, Bool.and_eq_true, decide_eq_true_eq] at h
  exact ⟨a.toNat, b.toNat, by omega, by omega, by omega, by omega, by omega⟩
theorem range_step (f : Nat → Int) (k : Nat) : (List.range (k + 1)).map f = (List.range k).map f ++ [f k] := by simp [List.range_succ]
theorem mod_succ (k r : Nat) (hr : 0 < r) : (k + 1) % r = if k % r + 1 = r then 0 else k % r + 1 := by
  have h := Nat.div_add_mod k r
  split
  · rename_i e
    have : k + 1 = r * (k / r + 1) := by rw [Nat.mul_add, Nat.mul_one]; omega
    rw [this, Nat.mul_mod_right]
  · rename_i e
    have h2 := Nat.mod_lt k hr
    have : k + 1 = (k % r + 1) + r * (k / r) := by omega
    rw [this, Nat.add_mul_mod_self_left, Nat.mod_eq_of_lt (by omega)]
structure Zig (N k : Nat) (v d : Int) : Prop where
  val : v = ptF N k
  one : d = 1 ∨ d = -1
  dir : 1 < N → k % (2 * N - 2) = 0 ∨ d = if k % (2 * N - 2) < N then 1 else -1
theorem zig_step {N k : Nat} (hN : 1 ≤ N) {v d e : Int} (h : Zig N k v d) (he : e = if v + d < 0 ∨ (N : Int) ≤ v + d then -d else d) : Zig N (k + 1) (if 1 < N then v + e else v) e := by
  obtain ⟨h1, h2, h3⟩ := h
  by_cases hN1 : 1 < N
  · have hr : max 1 (2 * N - 2) = 2 * N - 2 := by omega
    have hm := mod_succ k (2 * N - 2) (by omega)
    have hlt := Nat.mod_lt k (show 0 < 2 * N - 2 by omega)
    have h3 := h3 hN1
    unfold ptF at h1
    rw [hr] at h1
    rw [if_pos hN1]
    refine ⟨?_, by split at he <;> omega, fun _ => ?_⟩
    · unfold ptF
      rw [hr, hm]
      generalize k % (2 * N - 2) = q at *
      clear hm
      split
      · split at he <;> split at h3 <;> omega
      · split at he <;> split at h3 <;> omega
    · rw [hm]
      generalize k % (2 * N - 2) = q at *
      clear hm
      split
      · exact .inl rfl
      · right
        split at he <;> split at h3 <;> split <;> omega
  · have hN0 : N = 1 := by omega
    subst hN0
    have hz : ∀ i, ptF 1 i = 0 := fun i => by
      have : max 1 (2 * 1 - 2) = 1 := rfl
      unfold ptF
      rw [this, Nat.mod_one]
      rfl
    rw [if_neg (by omega)]
    exact ⟨by rw [h1, hz, hz], by split at he <;> omega, fun h => absurd h (by omega)⟩
section
variable (w : World) (n : Nat)
theorem straight_p (a b : Int) : VSpec (EN w (n + 2)) 11 [.sc (.int .i64 a), .sc (.int .i64 b)] (finV (straightF a b)) ⟨[], 0, 0⟩ := by
  refine vspec_g rfl rfl (fun _ _ => rfl) (Nat.le_of_ble_eq_true rfl) (oldVals w) retOK_fin rfl fun C hC h0 => ?_
  have hrg := fun st => (ranged_p w n a b).of hC rfl st rfl
  cases hr : rangedF a b
  · rw [hr] at hrg
    have e : straightF a b = ([], 2) := by unfold straightF; rw [hr]; rfl
    rw [e]
    repeat' (first | (simp (disch := first | omega | assumption | (refine @id ((_ : Bool) = _) ?_; exact id (by with_unfolding_all rfl)) | (exact Or.inl rfl) | (exact Or.inl trivial) | (exact okL_map _ (fun _ => rfl) _) | (simp only [List.length_map, List.length_set, List.length_replicate, List.length_cons, List.length_nil, List.length_append] <;> omega) | fail) only [VV0, VV1, VV2, VV3, VV4, VV5, VV6, VV7, mkFnV, vargs, slotsL, opdsA, not_true_eq_false, not_false_eq_true, decide_true, decide_false, Option.map_some, Option.bind_some, List.cons_append, List.nil_append, List.map_cons, List.map_nil, List.append_nil, Option.toList_some, Option.toList_none, Nat.reduceEqDiff, Nat.reduceLT, Nat.reduceAdd, Nat.reduceBEq, Int.reduceAdd, Int.reduceSub, Int.reduceLT, Int.reduceLE, Int.reduceEq, Int.reduceNeg, ↓reduceIte, if_true, if_false, Bool.false_eq_true, Bool.not_true, Bool.not_false, List.length_cons, List.length_nil, List.length_singleton, reduceCtorEq, Int.toNat_natCast, Nat.zero_add, Nat.add_zero, Nat.mul_one, Int.add_sub_cancel, eq_self, List.drop_zero, List.drop_succ_cons, Option.some.injEq, Prod.mk.injEq, Bool.and_true, Bool.true_and, Bool.and_self, true_or, List.set_cons_zero, List.set_cons_succ, scL, scD, expand, List.replicate, c11]) | (refine gC_drawW ?_) | (refine gI_dec (fun _ => ?_) (fun _ => ?_)) | (refine gG_dec (fun _ => ?_) (fun _ => ?_)) | (refine gPG_dec (fun _ => ?_) (fun _ => ?_)) | (refine gI_var (fun _ => ?_) (fun _ => ?_)) | (refine gG_var (fun _ => ?_) (fun _ => ?_)) | (refine gPG_var (fun _ => ?_) (fun _ => ?_)))
    refine callV_flat (hrg _) ?_
    repeat' (first | (simp (disch := first | omega | assumption | (refine @id ((_ : Bool) = _) ?_; exact id (by with_unfolding_all rfl)) | (exact Or.inl rfl) | (exact Or.inl trivial) | (exact okL_map _ (fun _ => rfl) _) | (simp only [List.length_map, List.length_set, List.length_replicate, List.length_cons, List.length_nil, List.length_append] <;> omega) | fail) only [VV0, VV1, VV2, VV3, VV4, VV5, VV6, VV7, mkFnV, vargs, slotsL, opdsA, not_true_eq_false, not_false_eq_true, decide_true, decide_false, Option.map_some, Option.bind_some, List.cons_append, List.nil_append, List.map_cons, List.map_nil, List.append_nil, Option.toList_some, Option.toList_none, Nat.reduceEqDiff, Nat.reduceLT, Nat.reduceAdd, Nat.reduceBEq, Int.reduceAdd, Int.reduceSub, Int.reduceLT, Int.reduceLE, Int.reduceEq, Int.reduceNeg, ↓reduceIte, if_true, if_false, Bool.false_eq_true, Bool.not_true, Bool.not_false, List.length_cons, List.length_nil, List.length_singleton, reduceCtorEq, Int.toNat_natCast, Nat.zero_add, Nat.add_zero, Nat.mul_one, Int.add_sub_cancel, eq_self, List.drop_zero, List.drop_succ_cons, Option.some.injEq, Prod.mk.injEq, Bool.and_true, Bool.true_and, Bool.and_self, true_or, List.set_cons_zero, List.set_cons_succ, scL, scD, expand, List.replicate]) | (refine gC_drawW ?_) | (refine gI_dec (fun _ => ?_) (fun _ => ?_)) | (refine gG_dec (fun _ => ?_) (fun _ => ?_)) | (refine gPG_dec (fun _ => ?_) (fun _ => ?_)) | (refine gI_var (fun _ => ?_) (fun _ => ?_)) | (refine gG_var (fun _ => ?_) (fun _ => ?_)) | (refine gPG_var (fun _ => ?_) (fun _ => ?_)))
    exact weak_finNil h0 rfl
  · rw [hr] at hrg
    obtain ⟨N, M, rfl, rfl, b1, b2, b3⟩ := ranged_nat hr
    have e : straightF N M = (stTo (fun i => ((i % N : Nat) : Int)) M M, 0) := by unfold straightF; rw [hr, stTo_end]; rfl
    rw [e]
    have hz := stTo_zero (fun i => ((i % N : Nat) : Int)) M
    have hsl := stTo_len (fun i => ((i % N : Nat) : Int)) M
    have hst := stTo_step (fun i => ((i % N : Nat) : Int)) M
    have hen := stTo_end (fun i => ((i % N : Nat) : Int)) M
    have hmod : ∀ i : Nat, (i : Int) % (N : Int) = ((i % N : Nat) : Int) := fun i => by simp
    repeat' (first | (simp (disch := first | omega | assumption | (refine @id ((_ : Bool) = _) ?_; exact id (by with_unfolding_all rfl)) | (exact Or.inl rfl) | (exact Or.inl trivial) | (exact okL_map _ (fun _ => rfl) _) | (simp only [List.length_map, List.length_set, List.length_replicate, List.length_cons, List.length_nil, List.length_append] <;> omega) | fail) only [VV0, VV1, VV2, VV3, VV4, VV5, VV6, VV7, mkFnV, vargs, slotsL, opdsA, not_true_eq_false, not_false_eq_true, decide_true, decide_false, Option.map_some, Option.bind_some, List.cons_append, List.nil_append, List.map_cons, List.map_nil, List.append_nil, Option.toList_some, Option.toList_none, Nat.reduceEqDiff, Nat.reduceLT, Nat.reduceAdd, Nat.reduceBEq, Int.reduceAdd, Int.reduceSub, Int.reduceLT, Int.reduceLE, Int.reduceEq, Int.reduceNeg, ↓reduceIte, if_true, if_false, Bool.false_eq_true, Bool.not_true, Bool.not_false, List.length_cons, List.length_nil, List.length_singleton, reduceCtorEq, Int.toNat_natCast, Nat.zero_add, Nat.add_zero, Nat.mul_one, Int.add_sub_cancel, eq_self, List.drop_zero, List.drop_succ_cons, Option.some.injEq, Prod.mk.injEq, Bool.and_true, Bool.true_and, Bool.and_self, true_or, List.set_cons_zero, List.set_cons_succ, scL, scD, expand, List.replicate, c11]) | (refine gC_drawW ?_) | (refine gI_dec (fun _ => ?_) (fun _ => ?_)) | (refine gG_dec (fun _ => ?_) (fun _ => ?_)) | (refine gPG_dec (fun _ => ?_) (fun _ => ?_)) | (refine gI_var (fun _ => ?_) (fun _ => ?_)) | (refine gG_var (fun _ => ?_) (fun _ => ?_)) | (refine gPG_var (fun _ => ?_) (fun _ => ?_)))
    refine callV_flat (hrg _) ?_
    repeat' (first | (simp (disch := first | omega | assumption | (refine @id ((_ : Bool) = _) ?_; exact id (by with_unfolding_all rfl)) | (exact Or.inl rfl) | (exact Or.inl trivial) | (exact okL_map _ (fun _ => rfl) _) | (simp only [List.length_map, List.length_set, List.length_replicate, List.length_cons, List.length_nil, List.length_append] <;> omega) | fail) only [VV0, VV1, VV2, VV3, VV4, VV5, VV6, VV7, mkFnV, vargs, slotsL, opdsA, not_true_eq_false, not_false_eq_true, decide_true, decide_false, Option.map_some, Option.bind_some, List.cons_append, List.nil_append, List.map_cons, List.map_nil, List.append_nil, Option.toList_some, Option.toList_none, Nat.reduceEqDiff, Nat.reduceLT, Nat.reduceAdd, Nat.reduceBEq, Int.reduceAdd, Int.reduceSub, Int.reduceLT, Int.reduceLE, Int.reduceEq, Int.reduceNeg, ↓reduceIte, if_true, if_false, Bool.false_eq_true, Bool.not_true, Bool.not_false, List.length_cons, List.length_nil, List.length_singleton, reduceCtorEq, Int.toNat_natCast, Nat.zero_add, Nat.add_zero, Nat.mul_one, Int.add_sub_cancel, eq_self, List.drop_zero, List.drop_succ_cons, Option.some.injEq, Prod.mk.injEq, Bool.and_true, Bool.true_and, Bool.and_self, true_or, List.set_cons_zero, List.set_cons_succ, scL, scD, expand, List.replicate]) | (refine gC_drawW ?_) | (refine gI_dec (fun _ => ?_) (fun _ => ?_)) | (refine gG_dec (fun _ => ?_) (fun _ => ?_)) | (refine gPG_dec (fun _ => ?_) (fun _ => ?_)) | (refine gI_var (fun _ => ?_) (fun _ => ?_)) | (refine gG_var (fun _ => ?_) (fun _ => ?_)) | (refine gPG_var (fun _ => ?_) (fun _ => ?_)))
    refine g_while (fun m fr st => ∃ k : Nat, m = M - k ∧ k ≤ M ∧ fr = [(0, .sc (.int .i64 N)), (6, .ref 0 0 M M), (14, .sc (.int .i64 M)), (15, .sc (.int .i64 k))] ∧ st = ⟨[(0, .row 3 1 false false ((stTo (fun i => ((i % N : Nat) : Int)) M k).map iD))], 1, 0⟩) M ?_ ⟨_, _, .refl _ _, 0, by omega, by omega, rfl, by rw [hz]⟩ ?_
    · rw [hC, callP_rounds]; unfold many; omega
    · rintro m fr st ⟨k, rfl, hk, rfl, rfl⟩
      by_cases hlt : k < M
      · have hlk : ((stTo (fun i => ((i % N : Nat) : Int)) M k).map iD).length = M := by rw [List.length_map, hsl]
        repeat' (first | (simp (disch := first | omega | assumption | (refine @id ((_ : Bool) = _) ?_; exact id (by with_unfolding_all rfl)) | (exact Or.inl rfl) | (exact Or.inl trivial) | (exact okL_map _ (fun _ => rfl) _) | (simp only [List.length_map, List.length_set, List.length_replicate, List.length_cons, List.length_nil, List.length_append] <;> omega) | fail) only [VV0, VV1, VV2, VV3, VV4, VV5, VV6, VV7, mkFnV, vargs, slotsL, opdsA, not_true_eq_false, not_false_eq_true, decide_true, decide_false, Option.map_some, Option.bind_some, List.cons_append, List.nil_append, List.map_cons, List.map_nil, List.append_nil, Option.toList_some, Option.toList_none, Nat.reduceEqDiff, Nat.reduceLT, Nat.reduceAdd, Nat.reduceBEq, Int.reduceAdd, Int.reduceSub, Int.reduceLT, Int.reduceLE, Int.reduceEq, Int.reduceNeg, ↓reduceIte, if_true, if_false, Bool.false_eq_true, Bool.not_true, Bool.not_false, List.length_cons, List.length_nil, List.length_singleton, reduceCtorEq, Int.toNat_natCast, Nat.zero_add, Nat.add_zero, Nat.mul_one, Int.add_sub_cancel, eq_self, List.drop_zero, List.drop_succ_cons, Option.some.injEq, Prod.mk.injEq, Bool.and_true, Bool.true_and, Bool.and_self, true_or, List.set_cons_zero, List.set_cons_succ, scL, scD, expand, List.replicate, c11l0, hmod]) | (refine gC_drawW ?_) | (refine gI_dec (fun _ => ?_) (fun _ => ?_)) | (refine gG_dec (fun _ => ?_) (fun _ => ?_)) | (refine gPG_dec (fun _ => ?_) (fun _ => ?_)) | (refine gI_var (fun _ => ?_) (fun _ => ?_)) | (refine gG_var (fun _ => ?_) (fun _ => ?_)) | (refine gPG_var (fun _ => ?_) (fun _ => ?_)))
        exact ⟨_, _, _, by omega, .refl _ _, k + 1, rfl, hlt, rfl, by rw [← hst k hlt]⟩
      · have : k = M := by omega
        subst this
        repeat' (first | (simp (disch := first | omega | assumption | (refine @id ((_ : Bool) = _) ?_; exact id (by with_unfolding_all rfl)) | (exact Or.inl rfl) | (exact Or.inl trivial) | (exact okL_map _ (fun _ => rfl) _) | (simp only [List.length_map, List.length_set, List.length_replicate, List.length_cons, List.length_nil, List.length_append] <;> omega) | fail) only [VV0, VV1, VV2, VV3, VV4, VV5, VV6, VV7, mkFnV, vargs, slotsL, opdsA, not_true_eq_false, not_false_eq_true, decide_true, decide_false, Option.map_some, Option.bind_some, List.cons_append, List.nil_append, List.map_cons, List.map_nil, List.append_nil, Option.toList_some, Option.toList_none, Nat.reduceEqDiff, Nat.reduceLT, Nat.reduceAdd, Nat.reduceBEq, Int.reduceAdd, Int.reduceSub, Int.reduceLT, Int.reduceLE, Int.reduceEq, Int.reduceNeg, ↓reduceIte, if_true, if_false, Bool.false_eq_true, Bool.not_true, Bool.not_false, List.length_cons, List.length_nil, List.length_singleton, reduceCtorEq, Int.toNat_natCast, Nat.zero_add, Nat.add_zero, Nat.mul_one, Int.add_sub_cancel, eq_self, List.drop_zero, List.drop_succ_cons, Option.some.injEq, Prod.mk.injEq, Bool.and_true, Bool.true_and, Bool.and_self, true_or, List.set_cons_zero, List.set_cons_succ, scL, scD, expand, List.replicate, c11l0]) | (refine gC_drawW ?_) | (refine gI_dec (fun _ => ?_) (fun _ => ?_)) | (refine gG_dec (fun _ => ?_) (fun _ => ?_)) | (refine gPG_dec (fun _ => ?_) (fun _ => ?_)) | (refine gI_var (fun _ => ?_) (fun _ => ?_)) | (refine gG_var (fun _ => ?_) (fun _ => ?_)) | (refine gPG_var (fun _ => ?_) (fun _ => ?_)))
        have hs := snap_ref (H := [(0, .row 3 1 false false ((stTo (fun i => ((i % N : Nat) : Int)) k k).map iD))]) (o := 0) (c := k) (t := 3) (g := false) (z := false) (l := stTo (fun i => ((i % N : Nat) : Int)) k k) rfl
        rw [hsl] at hs
        refine weak_fin (C := C) (s := 0) (n := _) (l := _) ?_ rfl (.inl (by omega)) h0 rfl
        rw [hsl]
        exact hs
end
end Go.Proofs.Ytkjkiodoighgnaa
namespace Go.Proofs.Ytkjkiodoighgnaa
open Go Go.Itp
set_option maxRecDepth 100000
set_option maxHeartbeats 1000000
set_option linter.unusedSimpArgs false
section
variable (w : World) (n : Nat)
theorem weak_finG {C : Ctx} {t o : Nat} {z : Bool} {l : List Int} {x : Value} {st : VSt} (ho : aget st.own o = some (.gro t 1 z (l.map iD))) (hz : z = false) (h0 : C.w0.nx = 0) (hro : st.ro = 0) : Weak C [(0, .tup [.gr 2 o l.length, .sc x])] st [(0, .tup [.sl 3 l.length (l.map iD), .sc x])] ⟨[], 0, 0⟩ := by
  subst hz
  refine weak_fin (snap_gr ho) ?_ (.inl (by omega)) h0 hro
  exact rowsB_gro _ _ _ _ _ _ _ _ ho (by rw [hro]; exact Nat.zero_le _) rfl
theorem rstraight_p (a b : Int) : VSpec (EN w (n + 2)) 12 [.sc (.int .i64 a), .sc (.int .i64 b)] (finV (straightF a b)) ⟨[], 0, 0⟩ := by
  refine vspec_g rfl rfl (fun _ _ => rfl) (Nat.le_of_ble_eq_true rfl) (oldVals w) retOK_fin rfl fun C hC h0 => ?_
  have hrg := fun st => (rranged_p w n a b).of hC rfl st rfl
  cases hr : rangedF a b
  · rw [hr] at hrg
    have e : straightF a b = ([], 2) := by unfold straightF; rw [hr]; rfl
    rw [e]
    repeat' (first | (simp (disch := first | omega | assumption | (refine @id ((_ : Bool) = _) ?_; exact id (by with_unfolding_all rfl)) | (exact Or.inl rfl) | (exact Or.inl trivial) | (exact okL_map _ (fun _ => rfl) _) | (simp only [List.length_map, List.length_set, List.length_replicate, List.length_cons, List.length_nil, List.length_append] <;> omega) | fail) only [VV0, VV1, VV2, VV3, VV4, VV5, VV6, VV7, mkFnV, vargs, slotsL, opdsA, not_true_eq_false, not_false_eq_true, decide_true, decide_false, Option.map_some, Option.bind_some, List.cons_append, List.nil_append, List.map_cons, List.map_nil, List.append_nil, Option.toList_some, Option.toList_none, Nat.reduceEqDiff, Nat.reduceLT, Nat.reduceAdd, Nat.reduceBEq, Int.reduceAdd, Int.reduceSub, Int.reduceLT, Int.reduceLE, Int.reduceEq, Int.reduceNeg, ↓reduceIte, if_true, if_false, Bool.false_eq_true, Bool.not_true, Bool.not_false, List.length_cons, List.length_nil, List.length_singleton, reduceCtorEq, Int.toNat_natCast, Nat.zero_add, Nat.add_zero, Nat.mul_one, Int.add_sub_cancel, eq_self, List.drop_zero, List.drop_succ_cons, Option.some.injEq, Prod.mk.injEq, Bool.and_true, Bool.true_and, Bool.and_self, true_or, List.set_cons_zero, List.set_cons_succ, scL, scD, expand, List.replicate, c12]) | (refine gC_drawW ?_) | (refine gI_dec (fun _ => ?_) (fun _ => ?_)) | (refine gG_dec (fun _ => ?_) (fun _ => ?_)) | (refine gPG_dec (fun _ => ?_) (fun _ => ?_)) | (refine gI_var (fun _ => ?_) (fun _ => ?_)) | (refine gG_var (fun _ => ?_) (fun _ => ?_)) | (refine gPG_var (fun _ => ?_) (fun _ => ?_)))
    refine callV_flat (hrg _) ?_
    repeat' (first | (simp (disch := first | omega | assumption | (refine @id ((_ : Bool) = _) ?_; exact id (by with_unfolding_all rfl)) | (exact Or.inl rfl) | (exact Or.inl trivial) | (exact okL_map _ (fun _ => rfl) _) | (simp only [List.length_map, List.length_set, List.length_replicate, List.length_cons, List.length_nil, List.length_append] <;> omega) | fail) only [VV0, VV1, VV2, VV3, VV4, VV5, VV6, VV7, mkFnV, vargs, slotsL, opdsA, not_true_eq_false, not_false_eq_true, decide_true, decide_false, Option.map_some, Option.bind_some, List.cons_append, List.nil_append, List.map_cons, List.map_nil, List.append_nil, Option.toList_some, Option.toList_none, Nat.reduceEqDiff, Nat.reduceLT, Nat.reduceAdd, Nat.reduceBEq, Int.reduceAdd, Int.reduceSub, Int.reduceLT, Int.reduceLE, Int.reduceEq, Int.reduceNeg, ↓reduceIte, if_true, if_false, Bool.false_eq_true, Bool.not_true, Bool.not_false, List.length_cons, List.length_nil, List.length_singleton, reduceCtorEq, Int.toNat_natCast, Nat.zero_add, Nat.add_zero, Nat.mul_one, Int.add_sub_cancel, eq_self, List.drop_zero, List.drop_succ_cons, Option.some.injEq, Prod.mk.injEq, Bool.and_true, Bool.true_and, Bool.and_self, true_or, List.set_cons_zero, List.set_cons_succ, scL, scD, expand, List.replicate]) | (refine gC_drawW ?_) | (refine gI_dec (fun _ => ?_) (fun _ => ?_)) | (refine gG_dec (fun _ => ?_) (fun _ => ?_)) | (refine gPG_dec (fun _ => ?_) (fun _ => ?_)) | (refine gI_var (fun _ => ?_) (fun _ => ?_)) | (refine gG_var (fun _ => ?_) (fun _ => ?_)) | (refine gPG_var (fun _ => ?_) (fun _ => ?_)))
    exact weak_finNil h0 rfl
  · rw [hr] at hrg
    obtain ⟨N, M, rfl, rfl, b1, b2, b3⟩ := ranged_nat hr
    have e : straightF N M = ((List.range M).map (fun i => ((i % N : Nat) : Int)), 0) := by unfold straightF; rw [hr]; rfl
    rw [e]
    have hst := range_step (fun i => ((i % N : Nat) : Int))
    have hmod : ∀ i : Nat, (i : Int) % (N : Int) = ((i % N : Nat) : Int) := fun i => by simp
    repeat' (first | (simp (disch := first | omega | assumption | (refine @id ((_ : Bool) = _) ?_; exact id (by with_unfolding_all rfl)) | (exact Or.inl rfl) | (exact Or.inl trivial) | (exact okL_map _ (fun _ => rfl) _) | (simp only [List.length_map, List.length_set, List.length_replicate, List.length_cons, List.length_nil, List.length_append] <;> omega) | fail) only [VV0, VV1, VV2, VV3, VV4, VV5, VV6, VV7, mkFnV, vargs, slotsL, opdsA, not_true_eq_false, not_false_eq_true, decide_true, decide_false, Option.map_some, Option.bind_some, List.cons_append, List.nil_append, List.map_cons, List.map_nil, List.append_nil, Option.toList_some, Option.toList_none, Nat.reduceEqDiff, Nat.reduceLT, Nat.reduceAdd, Nat.reduceBEq, Int.reduceAdd, Int.reduceSub, Int.reduceLT, Int.reduceLE, Int.reduceEq, Int.reduceNeg, ↓reduceIte, if_true, if_false, Bool.false_eq_true, Bool.not_true, Bool.not_false, List.length_cons, List.length_nil, List.length_singleton, reduceCtorEq, Int.toNat_natCast, Nat.zero_add, Nat.add_zero, Nat.mul_one, Int.add_sub_cancel, eq_self, List.drop_zero, List.drop_succ_cons, Option.some.injEq, Prod.mk.injEq, Bool.and_true, Bool.true_and, Bool.and_self, true_or, List.set_cons_zero, List.set_cons_succ, scL, scD, expand, List.replicate, c12]) | (refine gC_drawW ?_) | (refine gI_dec (fun _ => ?_) (fun _ => ?_)) | (refine gG_dec (fun _ => ?_) (fun _ => ?_)) | (refine gPG_dec (fun _ => ?_) (fun _ => ?_)) | (refine gI_var (fun _ => ?_) (fun _ => ?_)) | (refine gG_var (fun _ => ?_) (fun _ => ?_)) | (refine gPG_var (fun _ => ?_) (fun _ => ?_)))
    refine callV_flat (hrg _) ?_
    repeat' (first | (simp (disch := first | omega | assumption | (refine @id ((_ : Bool) = _) ?_; exact id (by with_unfolding_all rfl)) | (exact Or.inl rfl) | (exact Or.inl trivial) | (exact okL_map _ (fun _ => rfl) _) | (simp only [List.length_map, List.length_set, List.length_replicate, List.length_cons, List.length_nil, List.length_append] <;> omega) | fail) only [VV0, VV1, VV2, VV3, VV4, VV5, VV6, VV7, mkFnV, vargs, slotsL, opdsA, not_true_eq_false, not_false_eq_true, decide_true, decide_false, Option.map_some, Option.bind_some, List.cons_append, List.nil_append, List.map_cons, List.map_nil, List.append_nil, Option.toList_some, Option.toList_none, Nat.reduceEqDiff, Nat.reduceLT, Nat.reduceAdd, Nat.reduceBEq, Int.reduceAdd, Int.reduceSub, Int.reduceLT, Int.reduceLE, Int.reduceEq, Int.reduceNeg, ↓reduceIte, if_true, if_false, Bool.false_eq_true, Bool.not_true, Bool.not_false, List.length_cons, List.length_nil, List.length_singleton, reduceCtorEq, Int.toNat_natCast, Nat.zero_add, Nat.add_zero, Nat.mul_one, Int.add_sub_cancel, eq_self, List.drop_zero, List.drop_succ_cons, Option.some.injEq, Prod.mk.injEq, Bool.and_true, Bool.true_and, Bool.and_self, true_or, List.set_cons_zero, List.set_cons_succ, scL, scD, expand, List.replicate]) | (refine gC_drawW ?_) | (refine gI_dec (fun _ => ?_) (fun _ => ?_)) | (refine gG_dec (fun _ => ?_) (fun _ => ?_)) | (refine gPG_dec (fun _ => ?_) (fun _ => ?_)) | (refine gI_var (fun _ => ?_) (fun _ => ?_)) | (refine gG_var (fun _ => ?_) (fun _ => ?_)) | (refine gPG_var (fun _ => ?_) (fun _ => ?_)))
    refine g_while (fun m fr st => ∃ k : Nat, m = M - k ∧ k ≤ M ∧ fr = [(0, .sc (.int .i64 N)), (1, .sc (.int .i64 M)), (6, .gr 2 0 k), (7, .sc (.int .i64 k))] ∧ st = ⟨[(0, .gro 3 1 false (((List.range k).map (fun i => ((i % N : Nat) : Int))).map iD))], 1, 0⟩) M ?_ ⟨_, _, weak_nilSlot 6 3 1 rfl, 0, by omega, by omega, rfl, rfl⟩ ?_
    · rw [hC, callP_rounds]; unfold many; omega
    · rintro m fr st ⟨k, rfl, hk, rfl, rfl⟩
      by_cases hlt : k < M
      · have hlk : (((List.range k).map (fun i => ((i % N : Nat) : Int))).map iD).length = k * 1 := by simp
        repeat' (first | (simp (disch := first | omega | assumption | (refine @id ((_ : Bool) = _) ?_; exact id (by with_unfolding_all rfl)) | (exact Or.inl rfl) | (exact Or.inl trivial) | (exact okL_map _ (fun _ => rfl) _) | (simp only [List.length_map, List.length_set, List.length_replicate, List.length_cons, List.length_nil, List.length_append] <;> omega) | fail) only [VV0, VV1, VV2, VV3, VV4, VV5, VV6, VV7, mkFnV, vargs, slotsL, opdsA, not_true_eq_false, not_false_eq_true, decide_true, decide_false, Option.map_some, Option.bind_some, List.cons_append, List.nil_append, List.map_cons, List.map_nil, List.append_nil, Option.toList_some, Option.toList_none, Nat.reduceEqDiff, Nat.reduceLT, Nat.reduceAdd, Nat.reduceBEq, Int.reduceAdd, Int.reduceSub, Int.reduceLT, Int.reduceLE, Int.reduceEq, Int.reduceNeg, ↓reduceIte, if_true, if_false, Bool.false_eq_true, Bool.not_true, Bool.not_false, List.length_cons, List.length_nil, List.length_singleton, reduceCtorEq, Int.toNat_natCast, Nat.zero_add, Nat.add_zero, Nat.mul_one, Int.add_sub_cancel, eq_self, List.drop_zero, List.drop_succ_cons, Option.some.injEq, Prod.mk.injEq, Bool.and_true, Bool.true_and, Bool.and_self, true_or, List.set_cons_zero, List.set_cons_succ, scL, scD, expand, List.replicate, c12l0, hmod]) | (refine gC_drawW ?_) | (refine gI_dec (fun _ => ?_) (fun _ => ?_)) | (refine gG_dec (fun _ => ?_) (fun _ => ?_)) | (refine gPG_dec (fun _ => ?_) (fun _ => ?_)) | (refine gI_var (fun _ => ?_) (fun _ => ?_)) | (refine gG_var (fun _ => ?_) (fun _ => ?_)) | (refine gPG_var (fun _ => ?_) (fun _ => ?_)))
        refine ⟨_, _, _, by omega, weak_to [(2, 0)] 1 h0 rfl rfl rfl rfl, k + 1, rfl, hlt, ?_, ?_⟩
        · simp [renF, vren, aget_cons]
        · rw [hst, List.map_append]
          simp [renH, aget_cons, renO, iD]
      · have : k = M := by omega
        subst this
        repeat' (first | (simp (disch := first | omega | assumption | (refine @id ((_ : Bool) = _) ?_; exact id (by with_unfolding_all rfl)) | (exact Or.inl rfl) | (exact Or.inl trivial) | (exact okL_map _ (fun _ => rfl) _) | (simp only [List.length_map, List.length_set, List.length_replicate, List.length_cons, List.length_nil, List.length_append] <;> omega) | fail) only [VV0, VV1, VV2, VV3, VV4, VV5, VV6, VV7, mkFnV, vargs, slotsL, opdsA, not_true_eq_false, not_false_eq_true, decide_true, decide_false, Option.map_some, Option.bind_some, List.cons_append, List.nil_append, List.map_cons, List.map_nil, List.append_nil, Option.toList_some, Option.toList_none, Nat.reduceEqDiff, Nat.reduceLT, Nat.reduceAdd, Nat.reduceBEq, Int.reduceAdd, Int.reduceSub, Int.reduceLT, Int.reduceLE, Int.reduceEq, Int.reduceNeg, ↓reduceIte, if_true, if_false, Bool.false_eq_true, Bool.not_true, Bool.not_false, List.length_cons, List.length_nil, List.length_singleton, reduceCtorEq, Int.toNat_natCast, Nat.zero_add, Nat.add_zero, Nat.mul_one, Int.add_sub_cancel, eq_self, List.drop_zero, List.drop_succ_cons, Option.some.injEq, Prod.mk.injEq, Bool.and_true, Bool.true_and, Bool.and_self, true_or, List.set_cons_zero, List.set_cons_succ, scL, scD, expand, List.replicate, c12l0]) | (refine gC_drawW ?_) | (refine gI_dec (fun _ => ?_) (fun _ => ?_)) | (refine gG_dec (fun _ => ?_) (fun _ => ?_)) | (refine gPG_dec (fun _ => ?_) (fun _ => ?_)) | (refine gI_var (fun _ => ?_) (fun _ => ?_)) | (refine gG_var (fun _ => ?_) (fun _ => ?_)) | (refine gPG_var (fun _ => ?_) (fun _ => ?_)))
        have hl : ((List.range k).map (fun i => ((i % N : Nat) : Int))).length = k := by simp
        have := weak_finG (C := C) (t := 3) (o := 0) (z := false) (l := (List.range k).map (fun i => ((i % N : Nat) : Int))) (x := .int .i64 0) (st := ⟨[(0, .gro 3 1 false (((List.range k).map (fun i => ((i % N : Nat) : Int))).map iD))], 1, 0⟩) rfl rfl h0 rfl
        rw [hl] at this
        simp only [finV, hl]
        exact this
theorem pointed_p (a b : Int) : VSpec (EN w (n + 2)) 13 [.sc (.int .i64 a), .sc (.int .i64 b)] (finV (pointedF a b)) ⟨[], 0, 0⟩ := by
  refine vspec_g rfl rfl (fun _ _ => rfl) (Nat.le_of_ble_eq_true rfl) (oldVals w) retOK_fin rfl fun C hC h0 => ?_
  have hrg := fun st => (ranged_p w n a b).of hC rfl st rfl
  cases hr : rangedF a b
  · rw [hr] at hrg
    have e : pointedF a b = ([], 2) := by unfold pointedF; rw [hr]; rfl
    rw [e]
    repeat' (first | (simp (disch := first | omega | assumption | (refine @id ((_ : Bool) = _) ?_; exact id (by with_unfolding_all rfl)) | (exact Or.inl rfl) | (exact Or.inl trivial) | (exact okL_map _ (fun _ => rfl) _) | (simp only [List.length_map, List.length_set, List.length_replicate, List.length_cons, List.length_nil, List.length_append] <;> omega) | fail) only [VV0, VV1, VV2, VV3, VV4, VV5, VV6, VV7, mkFnV, vargs, slotsL, opdsA, not_true_eq_false, not_false_eq_true, decide_true, decide_false, Option.map_some, Option.bind_some, List.cons_append, List.nil_append, List.map_cons, List.map_nil, List.append_nil, Option.toList_some, Option.toList_none, Nat.reduceEqDiff, Nat.reduceLT, Nat.reduceAdd, Nat.reduceBEq, Int.reduceAdd, Int.reduceSub, Int.reduceLT, Int.reduceLE, Int.reduceEq, Int.reduceNeg, ↓reduceIte, if_true, if_false, Bool.false_eq_true, Bool.not_true, Bool.not_false, List.length_cons, List.length_nil, List.length_singleton, reduceCtorEq, Int.toNat_natCast, Nat.zero_add, Nat.add_zero, Nat.mul_one, Int.add_sub_cancel, eq_self, List.drop_zero, List.drop_succ_cons, Option.some.injEq, Prod.mk.injEq, Bool.and_true, Bool.true_and, Bool.and_self, true_or, List.set_cons_zero, List.set_cons_succ, scL, scD, expand, List.replicate, c13]) | (refine gC_drawW ?_) | (refine gI_dec (fun _ => ?_) (fun _ => ?_)) | (refine gG_dec (fun _ => ?_) (fun _ => ?_)) | (refine gPG_dec (fun _ => ?_) (fun _ => ?_)) | (refine gI_var (fun _ => ?_) (fun _ => ?_)) | (refine gG_var (fun _ => ?_) (fun _ => ?_)) | (refine gPG_var (fun _ => ?_) (fun _ => ?_)))
    refine callV_flat (hrg _) ?_
    repeat' (first | (simp (disch := first | omega | assumption | (refine @id ((_ : Bool) = _) ?_; exact id (by with_unfolding_all rfl)) | (exact Or.inl rfl) | (exact Or.inl trivial) | (exact okL_map _ (fun _ => rfl) _) | (simp only [List.length_map, List.length_set, List.length_replicate, List.length_cons, List.length_nil, List.length_append] <;> omega) | fail) only [VV0, VV1, VV2, VV3, VV4, VV5, VV6, VV7, mkFnV, vargs, slotsL, opdsA, not_true_eq_false, not_false_eq_true, decide_true, decide_false, Option.map_some, Option.bind_some, List.cons_append, List.nil_append, List.map_cons, List.map_nil, List.append_nil, Option.toList_some, Option.toList_none, Nat.reduceEqDiff, Nat.reduceLT, Nat.reduceAdd, Nat.reduceBEq, Int.reduceAdd, Int.reduceSub, Int.reduceLT, Int.reduceLE, Int.reduceEq, Int.reduceNeg, ↓reduceIte, if_true, if_false, Bool.false_eq_true, Bool.not_true, Bool.not_false, List.length_cons, List.length_nil, List.length_singleton, reduceCtorEq, Int.toNat_natCast, Nat.zero_add, Nat.add_zero, Nat.mul_one, Int.add_sub_cancel, eq_self, List.drop_zero, List.drop_succ_cons, Option.some.injEq, Prod.mk.injEq, Bool.and_true, Bool.true_and, Bool.and_self, true_or, List.set_cons_zero, List.set_cons_succ, scL, scD, expand, List.replicate]) | (refine gC_drawW ?_) | (refine gI_dec (fun _ => ?_) (fun _ => ?_)) | (refine gG_dec (fun _ => ?_) (fun _ => ?_)) | (refine gPG_dec (fun _ => ?_) (fun _ => ?_)) | (refine gI_var (fun _ => ?_) (fun _ => ?_)) | (refine gG_var (fun _ => ?_) (fun _ => ?_)) | (refine gPG_var (fun _ => ?_) (fun _ => ?_)))
    exact weak_finNil h0 rfl
  · rw [hr] at hrg
    obtain ⟨N, M, rfl, rfl, b1, b2, b3⟩ := ranged_nat hr
    have e : pointedF N M = (stTo (ptF N) M M, 0) := by unfold pointedF; rw [hr, stTo_end]; rfl
    rw [e]
    obtain ⟨r, hr0⟩ : ∃ r, max 1 (2 * N - 2) = r := ⟨_, rfl⟩
    have hri : max (1 : Int) (2 * (N : Int) - 2) = (r : Int) := by omega
    have hr1 : 1 ≤ r ∧ r ≤ 800 := by omega
    have hpt : ∀ i, ptF N i = ((min (i % r) (r - i % r) : Nat) : Int) := fun i => by unfold ptF; rw [hr0]
    have hz := stTo_zero (ptF N) M
    have hsl := stTo_len (ptF N) M
    have hst := stTo_step (ptF N) M
    have hmod : ∀ i : Nat, (i : Int) % (r : Int) = ((i % r : Nat) : Int) := fun i => by simp
    repeat' (first | (simp (disch := first | omega | assumption | (refine @id ((_ : Bool) = _) ?_; exact id (by with_unfolding_all rfl)) | (exact Or.inl rfl) | (exact Or.inl trivial) | (exact okL_map _ (fun _ => rfl) _) | (simp only [List.length_map, List.length_set, List.length_replicate, List.length_cons, List.length_nil, List.length_append] <;> omega) | fail) only [VV0, VV1, VV2, VV3, VV4, VV5, VV6, VV7, mkFnV, vargs, slotsL, opdsA, not_true_eq_false, not_false_eq_true, decide_true, decide_false, Option.map_some, Option.bind_some, List.cons_append, List.nil_append, List.map_cons, List.map_nil, List.append_nil, Option.toList_some, Option.toList_none, Nat.reduceEqDiff, Nat.reduceLT, Nat.reduceAdd, Nat.reduceBEq, Int.reduceAdd, Int.reduceSub, Int.reduceLT, Int.reduceLE, Int.reduceEq, Int.reduceNeg, ↓reduceIte, if_true, if_false, Bool.false_eq_true, Bool.not_true, Bool.not_false, List.length_cons, List.length_nil, List.length_singleton, reduceCtorEq, Int.toNat_natCast, Nat.zero_add, Nat.add_zero, Nat.mul_one, Int.add_sub_cancel, eq_self, List.drop_zero, List.drop_succ_cons, Option.some.injEq, Prod.mk.injEq, Bool.and_true, Bool.true_and, Bool.and_self, true_or, List.set_cons_zero, List.set_cons_succ, scL, scD, expand, List.replicate, c13]) | (refine gC_drawW ?_) | (refine gI_dec (fun _ => ?_) (fun _ => ?_)) | (refine gG_dec (fun _ => ?_) (fun _ => ?_)) | (refine gPG_dec (fun _ => ?_) (fun _ => ?_)) | (refine gI_var (fun _ => ?_) (fun _ => ?_)) | (refine gG_var (fun _ => ?_) (fun _ => ?_)) | (refine gPG_var (fun _ => ?_) (fun _ => ?_)))
    refine callV_flat (hrg _) ?_
    repeat' (first | (simp (disch := first | omega | assumption | (refine @id ((_ : Bool) = _) ?_; exact id (by with_unfolding_all rfl)) | (exact Or.inl rfl) | (exact Or.inl trivial) | (exact okL_map _ (fun _ => rfl) _) | (simp only [List.length_map, List.length_set, List.length_replicate, List.length_cons, List.length_nil, List.length_append] <;> omega) | fail) only [VV0, VV1, VV2, VV3, VV4, VV5, VV6, VV7, mkFnV, vargs, slotsL, opdsA, not_true_eq_false, not_false_eq_true, decide_true, decide_false, Option.map_some, Option.bind_some, List.cons_append, List.nil_append, List.map_cons, List.map_nil, List.append_nil, Option.toList_some, Option.toList_none, Nat.reduceEqDiff, Nat.reduceLT, Nat.reduceAdd, Nat.reduceBEq, Int.reduceAdd, Int.reduceSub, Int.reduceLT, Int.reduceLE, Int.reduceEq, Int.reduceNeg, ↓reduceIte, if_true, if_false, Bool.false_eq_true, Bool.not_true, Bool.not_false, List.length_cons, List.length_nil, List.length_singleton, reduceCtorEq, Int.toNat_natCast, Nat.zero_add, Nat.add_zero, Nat.mul_one, Int.add_sub_cancel, eq_self, List.drop_zero, List.drop_succ_cons, Option.some.injEq, Prod.mk.injEq, Bool.and_true, Bool.true_and, Bool.and_self, true_or, List.set_cons_zero, List.set_cons_succ, scL, scD, expand, List.replicate, hri]) | (refine gC_drawW ?_) | (refine gI_dec (fun _ => ?_) (fun _ => ?_)) | (refine gG_dec (fun _ => ?_) (fun _ => ?_)) | (refine gPG_dec (fun _ => ?_) (fun _ => ?_)) | (refine gI_var (fun _ => ?_) (fun _ => ?_)) | (refine gG_var (fun _ => ?_) (fun _ => ?_)) | (refine gPG_var (fun _ => ?_) (fun _ => ?_)))
    refine g_while (fun m fr st => ∃ k : Nat, m = M - k ∧ k ≤ M ∧ fr = [(6, .ref 0 0 M M), (7, .sc (.int .i64 r)), (20, .sc (.int .i64 M)), (21, .sc (.int .i64 k))] ∧ st = ⟨[(0, .row 3 1 false false ((stTo (ptF N) M k).map iD))], 1, 0⟩) M ?_ ⟨_, _, .refl _ _, 0, by omega, by omega, rfl, by rw [hz]⟩ ?_
    · rw [hC, callP_rounds]; unfold many; omega
    · rintro m fr st ⟨k, rfl, hk, rfl, rfl⟩
      by_cases hlt : k < M
      · have hlk : ((stTo (ptF N) M k).map iD).length = M := by rw [List.length_map, hsl]
        have hlr := Nat.mod_lt k (show 0 < r by omega)
        have hv : min ((k % r : Nat) : Int) ((r : Int) - ((k % r : Nat) : Int)) = ptF N k := by rw [hpt]; omega
        repeat' (first | (simp (disch := first | omega | assumption | (refine @id ((_ : Bool) = _) ?_; exact id (by with_unfolding_all rfl)) | (exact Or.inl rfl) | (exact Or.inl trivial) | (exact okL_map _ (fun _ => rfl) _) | (simp only [List.length_map, List.length_set, List.length_replicate, List.length_cons, List.length_nil, List.length_append] <;> omega) | fail) only [VV0, VV1, VV2, VV3, VV4, VV5, VV6, VV7, mkFnV, vargs, slotsL, opdsA, not_true_eq_false, not_false_eq_true, decide_true, decide_false, Option.map_some, Option.bind_some, List.cons_append, List.nil_append, List.map_cons, List.map_nil, List.append_nil, Option.toList_some, Option.toList_none, Nat.reduceEqDiff, Nat.reduceLT, Nat.reduceAdd, Nat.reduceBEq, Int.reduceAdd, Int.reduceSub, Int.reduceLT, Int.reduceLE, Int.reduceEq, Int.reduceNeg, ↓reduceIte, if_true, if_false, Bool.false_eq_true, Bool.not_true, Bool.not_false, List.length_cons, List.length_nil, List.length_singleton, reduceCtorEq, Int.toNat_natCast, Nat.zero_add, Nat.add_zero, Nat.mul_one, Int.add_sub_cancel, eq_self, List.drop_zero, List.drop_succ_cons, Option.some.injEq, Prod.mk.injEq, Bool.and_true, Bool.true_and, Bool.and_self, true_or, List.set_cons_zero, List.set_cons_succ, scL, scD, expand, List.replicate, c13l0, hmod, hv]) | (refine gC_drawW ?_) | (refine gI_dec (fun _ => ?_) (fun _ => ?_)) | (refine gG_dec (fun _ => ?_) (fun _ => ?_)) | (refine gPG_dec (fun _ => ?_) (fun _ => ?_)) | (refine gI_var (fun _ => ?_) (fun _ => ?_)) | (refine gG_var (fun _ => ?_) (fun _ => ?_)) | (refine gPG_var (fun _ => ?_) (fun _ => ?_)))
        exact ⟨_, _, _, by omega, .refl _ _, k + 1, rfl, hlt, rfl, by rw [← hst k hlt]⟩
      · have : k = M := by omega
        subst this
        repeat' (first | (simp (disch := first | omega | assumption | (refine @id ((_ : Bool) = _) ?_; exact id (by with_unfolding_all rfl)) | (exact Or.inl rfl) | (exact Or.inl trivial) | (exact okL_map _ (fun _ => rfl) _) | (simp only [List.length_map, List.length_set, List.length_replicate, List.length_cons, List.length_nil, List.length_append] <;> omega) | fail) only [VV0, VV1, VV2, VV3, VV4, VV5, VV6, VV7, mkFnV, vargs, slotsL, opdsA, not_true_eq_false, not_false_eq_true, decide_true, decide_false, Option.map_some, Option.bind_some, List.cons_append, List.nil_append, List.map_cons, List.map_nil, List.append_nil, Option.toList_some, Option.toList_none, Nat.reduceEqDiff, Nat.reduceLT, Nat.reduceAdd, Nat.reduceBEq, Int.reduceAdd, Int.reduceSub, Int.reduceLT, Int.reduceLE, Int.reduceEq, Int.reduceNeg, ↓reduceIte, if_true, if_false, Bool.false_eq_true, Bool.not_true, Bool.not_false, List.length_cons, List.length_nil, List.length_singleton, reduceCtorEq, Int.toNat_natCast, Nat.zero_add, Nat.add_zero, Nat.mul_one, Int.add_sub_cancel, eq_self, List.drop_zero, List.drop_succ_cons, Option.some.injEq, Prod.mk.injEq, Bool.and_true, Bool.true_and, Bool.and_self, true_or, List.set_cons_zero, List.set_cons_succ, scL, scD, expand, List.replicate, c13l0]) | (refine gC_drawW ?_) | (refine gI_dec (fun _ => ?_) (fun _ => ?_)) | (refine gG_dec (fun _ => ?_) (fun _ => ?_)) | (refine gPG_dec (fun _ => ?_) (fun _ => ?_)) | (refine gI_var (fun _ => ?_) (fun _ => ?_)) | (refine gG_var (fun _ => ?_) (fun _ => ?_)) | (refine gPG_var (fun _ => ?_) (fun _ => ?_)))
        have hs := snap_ref (H := [(0, .row 3 1 false false ((stTo (ptF N) k k).map iD))]) (o := 0) (c := k) (t := 3) (g := false) (z := false) (l := stTo (ptF N) k k) rfl
        rw [hsl] at hs
        refine weak_fin (C := C) (s := 0) (n := _) (l := _) ?_ rfl (.inl (by omega)) h0 rfl
        rw [hsl]
        exact hs
theorem rpointed_p (a b : Int) : VSpec (EN w (n + 2)) 14 [.sc (.int .i64 a), .sc (.int .i64 b)] (finV (pointedF a b)) ⟨[], 0, 0⟩ := by
  refine vspec_g rfl rfl (fun _ _ => rfl) (Nat.le_of_ble_eq_true rfl) (oldVals w) retOK_fin rfl fun C hC h0 => ?_
  have hrg := fun st => (rranged_p w n a b).of hC rfl st rfl
  cases hr : rangedF a b
  · rw [hr] at hrg
    have e : pointedF a b = ([], 2) := by unfold pointedF; rw [hr]; rfl
    rw [e]
    repeat' (first | (simp (disch := first | omega | assumption | (refine @id ((_ : Bool) = _) ?_; exact id (by with_unfolding_all rfl)) | (exact Or.inl rfl) | (exact Or.inl trivial) | (exact okL_map _ (fun _ => rfl) _) | (simp only [List.length_map, List.length_set, List.length_replicate, List.length_cons, List.length_nil, List.length_append] <;> omega) | fail) only [VV0, VV1, VV2, VV3, VV4, VV5, VV6, VV7, mkFnV, vargs, slotsL, opdsA, not_true_eq_false, not_false_eq_true, decide_true, decide_false, Option.map_some, Option.bind_some, List.cons_append, List.nil_append, List.map_cons, List.map_nil, List.append_nil, Option.toList_some, Option.toList_none, Nat.reduceEqDiff, Nat.reduceLT, Nat.reduceAdd, Nat.reduceBEq, Int.reduceAdd, Int.reduceSub, Int.reduceLT, Int.reduceLE, Int.reduceEq, Int.reduceNeg, ↓reduceIte, if_true, if_false, Bool.false_eq_true, Bool.not_true, Bool.not_false, List.length_cons, List.length_nil, List.length_singleton, reduceCtorEq, Int.toNat_natCast, Nat.zero_add, Nat.add_zero, Nat.mul_one, Int.add_sub_cancel, eq_self, List.drop_zero, List.drop_succ_cons, Option.some.injEq, Prod.mk.injEq, Bool.and_true, Bool.true_and, Bool.and_self, true_or, List.set_cons_zero, List.set_cons_succ, scL, scD, expand, List.replicate, c14]) | (refine gC_drawW ?_) | (refine gI_dec (fun _ => ?_) (fun _ => ?_)) | (refine gG_dec (fun _ => ?_) (fun _ => ?_)) | (refine gPG_dec (fun _ => ?_) (fun _ => ?_)) | (refine gI_var (fun _ => ?_) (fun _ => ?_)) | (refine gG_var (fun _ => ?_) (fun _ => ?_)) | (refine gPG_var (fun _ => ?_) (fun _ => ?_)))
    refine callV_flat (hrg _) ?_
    repeat' (first | (simp (disch := first | omega | assumption | (refine @id ((_ : Bool) = _) ?_; exact id (by with_unfolding_all rfl)) | (exact Or.inl rfl) | (exact Or.inl trivial) | (exact okL_map _ (fun _ => rfl) _) | (simp only [List.length_map, List.length_set, List.length_replicate, List.length_cons, List.length_nil, List.length_append] <;> omega) | fail) only [VV0, VV1, VV2, VV3, VV4, VV5, VV6, VV7, mkFnV, vargs, slotsL, opdsA, not_true_eq_false, not_false_eq_true, decide_true, decide_false, Option.map_some, Option.bind_some, List.cons_append, List.nil_append, List.map_cons, List.map_nil, List.append_nil, Option.toList_some, Option.toList_none, Nat.reduceEqDiff, Nat.reduceLT, Nat.reduceAdd, Nat.reduceBEq, Int.reduceAdd, Int.reduceSub, Int.reduceLT, Int.reduceLE, Int.reduceEq, Int.reduceNeg, ↓reduceIte, if_true, if_false, Bool.false_eq_true, Bool.not_true, Bool.not_false, List.length_cons, List.length_nil, List.length_singleton, reduceCtorEq, Int.toNat_natCast, Nat.zero_add, Nat.add_zero, Nat.mul_one, Int.add_sub_cancel, eq_self, List.drop_zero, List.drop_succ_cons, Option.some.injEq, Prod.mk.injEq, Bool.and_true, Bool.true_and, Bool.and_self, true_or, List.set_cons_zero, List.set_cons_succ, scL, scD, expand, List.replicate]) | (refine gC_drawW ?_) | (refine gI_dec (fun _ => ?_) (fun _ => ?_)) | (refine gG_dec (fun _ => ?_) (fun _ => ?_)) | (refine gPG_dec (fun _ => ?_) (fun _ => ?_)) | (refine gI_var (fun _ => ?_) (fun _ => ?_)) | (refine gG_var (fun _ => ?_) (fun _ => ?_)) | (refine gPG_var (fun _ => ?_) (fun _ => ?_)))
    exact weak_finNil h0 rfl
  · rw [hr] at hrg
    obtain ⟨N, M, rfl, rfl, b1, b2, b3⟩ := ranged_nat hr
    have e : pointedF N M = ((List.range M).map (ptF N), 0) := by unfold pointedF; rw [hr]; rfl
    rw [e]
    have hst := range_step (ptF N)
    repeat' (first | (simp (disch := first | omega | assumption | (refine @id ((_ : Bool) = _) ?_; exact id (by with_unfolding_all rfl)) | (exact Or.inl rfl) | (exact Or.inl trivial) | (exact okL_map _ (fun _ => rfl) _) | (simp only [List.length_map, List.length_set, List.length_replicate, List.length_cons, List.length_nil, List.length_append] <;> omega) | fail) only [VV0, VV1, VV2, VV3, VV4, VV5, VV6, VV7, mkFnV, vargs, slotsL, opdsA, not_true_eq_false, not_false_eq_true, decide_true, decide_false, Option.map_some, Option.bind_some, List.cons_append, List.nil_append, List.map_cons, List.map_nil, List.append_nil, Option.toList_some, Option.toList_none, Nat.reduceEqDiff, Nat.reduceLT, Nat.reduceAdd, Nat.reduceBEq, Int.reduceAdd, Int.reduceSub, Int.reduceLT, Int.reduceLE, Int.reduceEq, Int.reduceNeg, ↓reduceIte, if_true, if_false, Bool.false_eq_true, Bool.not_true, Bool.not_false, List.length_cons, List.length_nil, List.length_singleton, reduceCtorEq, Int.toNat_natCast, Nat.zero_add, Nat.add_zero, Nat.mul_one, Int.add_sub_cancel, eq_self, List.drop_zero, List.drop_succ_cons, Option.some.injEq, Prod.mk.injEq, Bool.and_true, Bool.true_and, Bool.and_self, true_or, List.set_cons_zero, List.set_cons_succ, scL, scD, expand, List.replicate, c14]) | (refine gC_drawW ?_) | (refine gI_dec (fun _ => ?_) (fun _ => ?_)) | (refine gG_dec (fun _ => ?_) (fun _ => ?_)) | (refine gPG_dec (fun _ => ?_) (fun _ => ?_)) | (refine gI_var (fun _ => ?_) (fun _ => ?_)) | (refine gG_var (fun _ => ?_) (fun _ => ?_)) | (refine gPG_var (fun _ => ?_) (fun _ => ?_)))
    refine callV_flat (hrg _) ?_
    repeat' (first | (simp (disch := first | omega | assumption | (refine @id ((_ : Bool) = _) ?_; exact id (by with_unfolding_all rfl)) | (exact Or.inl rfl) | (exact Or.inl trivial) | (exact okL_map _ (fun _ => rfl) _) | (simp only [List.length_map, List.length_set, List.length_replicate, List.length_cons, List.length_nil, List.length_append] <;> omega) | fail) only [VV0, VV1, VV2, VV3, VV4, VV5, VV6, VV7, mkFnV, vargs, slotsL, opdsA, not_true_eq_false, not_false_eq_true, decide_true, decide_false, Option.map_some, Option.bind_some, List.cons_append, List.nil_append, List.map_cons, List.map_nil, List.append_nil, Option.toList_some, Option.toList_none, Nat.reduceEqDiff, Nat.reduceLT, Nat.reduceAdd, Nat.reduceBEq, Int.reduceAdd, Int.reduceSub, Int.reduceLT, Int.reduceLE, Int.reduceEq, Int.reduceNeg, ↓reduceIte, if_true, if_false, Bool.false_eq_true, Bool.not_true, Bool.not_false, List.length_cons, List.length_nil, List.length_singleton, reduceCtorEq, Int.toNat_natCast, Nat.zero_add, Nat.add_zero, Nat.mul_one, Int.add_sub_cancel, eq_self, List.drop_zero, List.drop_succ_cons, Option.some.injEq, Prod.mk.injEq, Bool.and_true, Bool.true_and, Bool.and_self, true_or, List.set_cons_zero, List.set_cons_succ, scL, scD, expand, List.replicate]) | (refine gC_drawW ?_) | (refine gI_dec (fun _ => ?_) (fun _ => ?_)) | (refine gG_dec (fun _ => ?_) (fun _ => ?_)) | (refine gPG_dec (fun _ => ?_) (fun _ => ?_)) | (refine gI_var (fun _ => ?_) (fun _ => ?_)) | (refine gG_var (fun _ => ?_) (fun _ => ?_)) | (refine gPG_var (fun _ => ?_) (fun _ => ?_)))
    refine g_while (fun m fr st => ∃ (k : Nat) (v d : Int), m = M - k ∧ k ≤ M ∧ Zig N k v d ∧ fr = [(0, .sc (.int .i64 N)), (1, .sc (.int .i64 M)), (6, .gr 2 0 k), (7, .sc (.int .i64 v)), (8, .sc (.int .i64 d)), (9, .sc (.int .i64 k))] ∧ st = ⟨[(0, .gro 3 1 false (((List.range k).map (ptF N)).map iD))], 1, 0⟩) M ?_ ⟨_, _, weak_nilSlot 6 3 1 rfl, 0, 0, 1, by omega, by omega, ⟨?_, .inl rfl, fun _ => .inl (Nat.zero_mod _)⟩, rfl, rfl⟩ ?_
    · rw [hC, callP_rounds]; unfold many; omega
    · unfold ptF; simp
    · rintro m fr st ⟨k, v, d, rfl, hk, hzg, rfl, rfl⟩
      by_cases hlt : k < M
      · have hlk : (((List.range k).map (ptF N)).map iD).length = k * 1 := by simp
        have hvb : 0 ≤ v ∧ v ≤ 800 := by
          have := hzg.val
          unfold ptF at this
          have h2 := Nat.mod_lt k (show 0 < max 1 (2 * N - 2) by omega)
          omega
        have hd := hzg.one
        have hzs := zig_step b1 hzg rfl
        have hval := hzg.val
        by_cases h1 : v + d < 0
        all_goals by_cases h2 : (N : Int) ≤ v + d
        all_goals by_cases h3 : 1 < N
        all_goals try (exfalso; omega)
        all_goals
          first
          | rw [if_pos (show v + d < 0 ∨ (N : Int) ≤ v + d by omega)] at hzs
          | rw [if_neg (show ¬ (v + d < 0 ∨ (N : Int) ≤ v + d) by omega)] at hzs
          first
          | rw [if_pos h3] at hzs
          | rw [if_neg h3] at hzs
          repeat' (first | (simp (disch := first | omega | assumption | (refine @id ((_ : Bool) = _) ?_; exact id (by with_unfolding_all rfl)) | (exact Or.inl rfl) | (exact Or.inl trivial) | (exact okL_map _ (fun _ => rfl) _) | (simp only [List.length_map, List.length_set, List.length_replicate, List.length_cons, List.length_nil, List.length_append] <;> omega) | fail) only [VV0, VV1, VV2, VV3, VV4, VV5, VV6, VV7, mkFnV, vargs, slotsL, opdsA, not_true_eq_false, not_false_eq_true, decide_true, decide_false, Option.map_some, Option.bind_some, List.cons_append, List.nil_append, List.map_cons, List.map_nil, List.append_nil, Option.toList_some, Option.toList_none, Nat.reduceEqDiff, Nat.reduceLT, Nat.reduceAdd, Nat.reduceBEq, Int.reduceAdd, Int.reduceSub, Int.reduceLT, Int.reduceLE, Int.reduceEq, Int.reduceNeg, ↓reduceIte, if_true, if_false, Bool.false_eq_true, Bool.not_true, Bool.not_false, List.length_cons, List.length_nil, List.length_singleton, reduceCtorEq, Int.toNat_natCast, Nat.zero_add, Nat.add_zero, Nat.mul_one, Int.add_sub_cancel, eq_self, List.drop_zero, List.drop_succ_cons, Option.some.injEq, Prod.mk.injEq, Bool.and_true, Bool.true_and, Bool.and_self, true_or, List.set_cons_zero, List.set_cons_succ, scL, scD, expand, List.replicate, c14l0]) | (refine gC_drawW ?_) | (refine gI_dec (fun _ => ?_) (fun _ => ?_)) | (refine gG_dec (fun _ => ?_) (fun _ => ?_)) | (refine gPG_dec (fun _ => ?_) (fun _ => ?_)) | (refine gI_var (fun _ => ?_) (fun _ => ?_)) | (refine gG_var (fun _ => ?_) (fun _ => ?_)) | (refine gPG_var (fun _ => ?_) (fun _ => ?_)))
          refine ⟨_, _, _, by omega, weak_to [(2, 0)] 1 h0 rfl rfl rfl rfl, k + 1, _, _, rfl, hlt, hzs, ?_, ?_⟩
          · simp [renF, vren, aget_cons]
          · rw [hst, List.map_append, ← hval]
            simp [renH, aget_cons, renO, iD]
      · have : k = M := by omega
        subst this
        repeat' (first | (simp (disch := first | omega | assumption | (refine @id ((_ : Bool) = _) ?_; exact id (by with_unfolding_all rfl)) | (exact Or.inl rfl) | (exact Or.inl trivial) | (exact okL_map _ (fun _ => rfl) _) | (simp only [List.length_map, List.length_set, List.length_replicate, List.length_cons, List.length_nil, List.length_append] <;> omega) | fail) only [VV0, VV1, VV2, VV3, VV4, VV5, VV6, VV7, mkFnV, vargs, slotsL, opdsA, not_true_eq_false, not_false_eq_true, decide_true, decide_false, Option.map_some, Option.bind_some, List.cons_append, List.nil_append, List.map_cons, List.map_nil, List.append_nil, Option.toList_some, Option.toList_none, Nat.reduceEqDiff, Nat.reduceLT, Nat.reduceAdd, Nat.reduceBEq, Int.reduceAdd, Int.reduceSub, Int.reduceLT, Int.reduceLE, Int.reduceEq, Int.reduceNeg, ↓reduceIte, if_true, if_false, Bool.false_eq_true, Bool.not_true, Bool.not_false, List.length_cons, List.length_nil, List.length_singleton, reduceCtorEq, Int.toNat_natCast, Nat.zero_add, Nat.add_zero, Nat.mul_one, Int.add_sub_cancel, eq_self, List.drop_zero, List.drop_succ_cons, Option.some.injEq, Prod.mk.injEq, Bool.and_true, Bool.true_and, Bool.and_self, true_or, List.set_cons_zero, List.set_cons_succ, scL, scD, expand, List.replicate, c14l0]) | (refine gC_drawW ?_) | (refine gI_dec (fun _ => ?_) (fun _ => ?_)) | (refine gG_dec (fun _ => ?_) (fun _ => ?_)) | (refine gPG_dec (fun _ => ?_) (fun _ => ?_)) | (refine gI_var (fun _ => ?_) (fun _ => ?_)) | (refine gG_var (fun _ => ?_) (fun _ => ?_)) | (refine gPG_var (fun _ => ?_) (fun _ => ?_)))
        have hl : ((List.range k).map (ptF N)).length = k := by simp
        have := weak_finG (C := C) (t := 3) (o := 0) (z := false) (l := (List.range k).map (ptF N)) (x := .int .i64 0) (st := ⟨[(0, .gro 3 1 false (((List.range k).map (ptF N)).map iD))], 1, 0⟩) rfl rfl h0 rfl
        rw [hl] at this
        simp only [finV, hl]
        exact this
end
end Go.Proofs.Ytkjkiodoighgnaa
namespace Go.Proofs.Ytkjkiodoighgnaa
open Go Go.Itp
set_option maxRecDepth 100000
set_option maxHeartbeats 1000000
set_option linter.unusedSimpArgs false
abbrev resV (r : List Int × Int) : V := .tup [.gr 2 0 r.1.length, .sc (.int .i64 r.2)]
abbrev resS (r : List Int × Int) : VSt := ⟨[(0, .gro 3 1 false (r.1.map iD))], 1, 0⟩
def joinF (a b : List Int) : List Int × Int := if chkL [(0, a), (0, b)] ≠ 0 then ([], chkL [(0, a), (0, b)]) else if 400 < a.length + b.length then ([], 4) else (a ++ b, 0)
def cat (L : List (Nat × List Int)) : List Int := L.flatMap (·.2)
theorem cat_step {L : List (Nat × List Int)} {k : Nat} (hk : k < L.length) : cat (L.take (k + 1)) = cat (L.take k) ++ L[k]!.2 := by
  unfold cat
  rw [List.take_succ_eq_append_getElem hk, List.flatMap_append, getElem!_pos L k hk]
  simp
theorem cat_le {L : List (Nat × List Int)} (k : Nat) : (cat (L.take k)).length ≤ (cat L).length := by
  have : cat L = cat (L.take k) ++ cat (L.drop k) := by
    unfold cat
    rw [← List.flatMap_append, List.take_append_drop]
  rw [this, List.length_append]
  omega
theorem appFull_big (nx t e b n N o k m : Nat) (base : Src) (new : List D) (fz : List Nat) (hm : m ≠ 0) : appFull nx t e b n (big + N) o k base (some (m, new, fz)) = none := by
  have h : Nat.blt (big + N) big = false := by rw [← Bool.not_eq_true, Nat.blt_eq]; omega
  simp only [appFull, h, Bool.false_and, Bool.false_eq_true, if_false]
  rw [if_neg (by rw [nbeq]; exact hm)]
  split <;> rfl
theorem room_eq (A new : List D) (z : D) (T : Nat) (h : A.length + new.length ≤ T) :
    (A ++ List.replicate (T - A.length) z).take A.length ++ new ++ (A ++ List.replicate (T - A.length) z).drop (A.length + new.length) = (A ++ new) ++ List.replicate (T - (A.length + new.length)) z := by
  rw [List.take_left', List.drop_append, List.drop_eq_nil_of_le (by omega), List.nil_append, List.drop_replicate]
  · congr 2
    omega
  · rfl
section
variable (w : World) (n : Nat)
theorem grow_zero : VSpec (EN w (n + 1)) 33 [.sc (.slice none 0 0), .sc (.int .i64 0)] (.sc (.slice none 0 0)) ⟨[], 0, 0⟩ := by
  refine vspec_flat rfl rfl (fun _ _ => rfl) (Nat.le_of_ble_eq_true rfl) (oldVals w) rfl fun C hC h0 => ?_
  repeat' (first | (simp (disch := first | omega | assumption | (refine @id ((_ : Bool) = _) ?_; exact id (by with_unfolding_all rfl)) | (exact Or.inl rfl) | (exact Or.inl trivial) | (exact okL_map _ (fun _ => rfl) _) | (simp only [List.length_map, List.length_set, List.length_replicate, List.length_cons, List.length_nil, List.length_append] <;> omega) | fail) only [VV0, VV1, VV2, VV3, VV4, VV5, VV6, VV7, mkFnV, vargs, slotsL, opdsA, not_true_eq_false, not_false_eq_true, decide_true, decide_false, Option.map_some, Option.bind_some, List.cons_append, List.nil_append, List.map_cons, List.map_nil, List.append_nil, Option.toList_some, Option.toList_none, Nat.reduceEqDiff, Nat.reduceLT, Nat.reduceAdd, Nat.reduceBEq, Int.reduceAdd, Int.reduceSub, Int.reduceLT, Int.reduceLE, Int.reduceEq, Int.reduceNeg, ↓reduceIte, if_true, if_false, Bool.false_eq_true, Bool.not_true, Bool.not_false, List.length_cons, List.length_nil, List.length_singleton, reduceCtorEq, Int.toNat_natCast, Nat.zero_add, Nat.add_zero, Nat.mul_one, Int.add_sub_cancel, eq_self, List.drop_zero, List.drop_succ_cons, Option.some.injEq, Prod.mk.injEq, Bool.and_true, Bool.true_and, Bool.and_self, true_or, List.set_cons_zero, List.set_cons_succ, scL, scD, expand, List.replicate, c33]) | (refine gC_drawW ?_) | (refine gI_dec (fun _ => ?_) (fun _ => ?_)) | (refine gG_dec (fun _ => ?_) (fun _ => ?_)) | (refine gPG_dec (fun _ => ?_) (fun _ => ?_)) | (refine gI_var (fun _ => ?_) (fun _ => ?_)) | (refine gG_var (fun _ => ?_) (fun _ => ?_)) | (refine gPG_var (fun _ => ?_) (fun _ => ?_)))
  exact weak_flat rfl h0 rfl
theorem grow_p (N : Nat) (hN : 0 < N) (hN2 : N ≤ 100000000000) : VSpec (EN w (n + 1)) 33 [.sc (.slice none 0 0), .sc (.int .i64 N)] (.ref 0 0 0 (big + N)) ⟨[(0, .row 3 1 true false (List.replicate N (.sc (.int .i64 0))))], 1, 0⟩ := by
  refine vspec_g rfl rfl (fun _ _ => rfl) (Nat.le_of_ble_eq_true rfl) (oldVals w) retOK_ref rfl fun C hC h0 => ?_
  have hne : N ≠ 0 := by omega
  repeat' (first | (simp (disch := first | omega | assumption | (refine @id ((_ : Bool) = _) ?_; exact id (by with_unfolding_all rfl)) | (exact Or.inl rfl) | (exact Or.inl trivial) | (exact okL_map _ (fun _ => rfl) _) | (simp only [List.length_map, List.length_set, List.length_replicate, List.length_cons, List.length_nil, List.length_append] <;> omega) | fail) only [VV0, VV1, VV2, VV3, VV4, VV5, VV6, VV7, mkFnV, vargs, slotsL, opdsA, not_true_eq_false, not_false_eq_true, decide_true, decide_false, Option.map_some, Option.bind_some, List.cons_append, List.nil_append, List.map_cons, List.map_nil, List.append_nil, Option.toList_some, Option.toList_none, Nat.reduceEqDiff, Nat.reduceLT, Nat.reduceAdd, Nat.reduceBEq, Int.reduceAdd, Int.reduceSub, Int.reduceLT, Int.reduceLE, Int.reduceEq, Int.reduceNeg, ↓reduceIte, if_true, if_false, Bool.false_eq_true, Bool.not_true, Bool.not_false, List.length_cons, List.length_nil, List.length_singleton, reduceCtorEq, Int.toNat_natCast, Nat.zero_add, Nat.add_zero, Nat.mul_one, Int.add_sub_cancel, eq_self, List.drop_zero, List.drop_succ_cons, Option.some.injEq, Prod.mk.injEq, Bool.and_true, Bool.true_and, Bool.and_self, true_or, List.set_cons_zero, List.set_cons_succ, scL, scD, expand, List.replicate, c33, Int.sub_zero]) | (refine gC_drawW ?_) | (refine gI_dec (fun _ => ?_) (fun _ => ?_)) | (refine gG_dec (fun _ => ?_) (fun _ => ?_)) | (refine gPG_dec (fun _ => ?_) (fun _ => ?_)) | (refine gI_var (fun _ => ?_) (fun _ => ?_)) | (refine gG_var (fun _ => ?_) (fun _ => ?_)) | (refine gPG_var (fun _ => ?_) (fun _ => ?_)))
  refine (weak_row (o := 0) (t := 3) (e := 1) (z := false) (l := List.replicate N (.sc (.int .i64 0))) rfl (by simp; omega)).trans ?_
  exact .refl _ _
theorem concat_p (L : List (Nat × List Int)) (hL : L.length ≤ 1000) (hk : ∀ p ∈ L, p.1 ≠ 1 ∨ p.2.length ≠ 0) (hT : (cat L).length ≤ 100000) : VSpec (EN w (n + 2)) 28 [.sl 0 L.length (L.map rowD)] (.gr 2 0 (cat L).length) ⟨[(0, .gro 3 1 false ((cat L).map iD))], 1, 0⟩ := by
  refine vspec_g rfl rfl (fun _ _ => rfl) (Nat.le_of_ble_eq_true rfl) (oldVals w) (retOK_gr (map_nil_iff rfl)) rfl fun C hC h0 => ?_
  simp (disch := first | omega | assumption | (refine @id ((_ : Bool) = _) ?_; exact id (by with_unfolding_all rfl)) | (exact Or.inl rfl) | (exact Or.inl trivial) | (exact okL_map _ (fun _ => rfl) _) | (simp only [List.length_map, List.length_set, List.length_replicate, List.length_cons, List.length_nil, List.length_append] <;> omega) | fail) only [VV0, VV1, VV2, VV3, VV4, VV5, VV6, VV7, mkFnV, vargs, slotsL, opdsA, not_true_eq_false, not_false_eq_true, decide_true, decide_false, Option.map_some, Option.bind_some, List.cons_append, List.nil_append, List.map_cons, List.map_nil, List.append_nil, Option.toList_some, Option.toList_none, Nat.reduceEqDiff, Nat.reduceLT, Nat.reduceAdd, Nat.reduceBEq, Int.reduceAdd, Int.reduceSub, Int.reduceLT, Int.reduceLE, Int.reduceEq, Int.reduceNeg, ↓reduceIte, if_true, if_false, Bool.false_eq_true, Bool.not_true, Bool.not_false, List.length_cons, List.length_nil, List.length_singleton, reduceCtorEq, Int.toNat_natCast, Nat.zero_add, Nat.add_zero, Nat.mul_one, Int.add_sub_cancel, eq_self, List.drop_zero, List.drop_succ_cons, Option.some.injEq, Prod.mk.injEq, Bool.and_true, Bool.true_and, Bool.and_self, true_or, List.set_cons_zero, List.set_cons_succ, scL, scD, expand, List.replicate, c28]
  refine g_while (fun m fr st => ∃ k : Nat, m = L.length - k ∧ k ≤ L.length ∧ fr = [(0, .sl 0 L.length (L.map rowD)), (3, .sc (.int .i64 (cat (L.take k)).length)), (9, .sl 0 L.length (L.map rowD)), (10, .sc (.int .i64 L.length)), (11, .sc (.int .i64 k))] ∧ st = ⟨[], 0, 0⟩) L.length ?_ ⟨_, _, .refl _ _, 0, ?_⟩ ?_
  · rw [hC, callP_rounds]; unfold many; omega
  · exact ⟨by omega, by omega, rfl, rfl⟩
  · rintro m fr st ⟨k, rfl, hkl, rfl, rfl⟩
    have hcl := cat_le (L := L) k
    by_cases hlt : k < L.length
    · have hcs := cat_step hlt
      have hcl2 := cat_le (L := L) (k + 1)
      have hl2 : (cat (L.take (k + 1))).length = (cat (L.take k)).length + L[k]!.2.length := by rw [hcs, List.length_append]
      generalize hp : L[k]! = p at hl2
      obtain ⟨s, l⟩ := p
      simp only at hl2
      repeat' (first | (simp (disch := first | omega | assumption | (refine @id ((_ : Bool) = _) ?_; exact id (by with_unfolding_all rfl)) | (exact Or.inl rfl) | (exact Or.inl trivial) | (exact okL_map _ (fun _ => rfl) _) | (simp only [List.length_map, List.length_set, List.length_replicate, List.length_cons, List.length_nil, List.length_append] <;> omega) | fail) only [VV0, VV1, VV2, VV3, VV4, VV5, VV6, VV7, mkFnV, vargs, slotsL, opdsA, not_true_eq_false, not_false_eq_true, decide_true, decide_false, Option.map_some, Option.bind_some, List.cons_append, List.nil_append, List.map_cons, List.map_nil, List.append_nil, Option.toList_some, Option.toList_none, Nat.reduceEqDiff, Nat.reduceLT, Nat.reduceAdd, Nat.reduceBEq, Int.reduceAdd, Int.reduceSub, Int.reduceLT, Int.reduceLE, Int.reduceEq, Int.reduceNeg, ↓reduceIte, if_true, if_false, Bool.false_eq_true, Bool.not_true, Bool.not_false, List.length_cons, List.length_nil, List.length_singleton, reduceCtorEq, Int.toNat_natCast, Nat.zero_add, Nat.add_zero, Nat.mul_one, Int.add_sub_cancel, eq_self, List.drop_zero, List.drop_succ_cons, Option.some.injEq, Prod.mk.injEq, Bool.and_true, Bool.true_and, Bool.and_self, true_or, List.set_cons_zero, List.set_cons_succ, scL, scD, expand, List.replicate, c28l1, rowD_dv, hp]) | (refine gC_drawW ?_) | (refine gI_dec (fun _ => ?_) (fun _ => ?_)) | (refine gG_dec (fun _ => ?_) (fun _ => ?_)) | (refine gPG_dec (fun _ => ?_) (fun _ => ?_)) | (refine gI_var (fun _ => ?_) (fun _ => ?_)) | (refine gG_var (fun _ => ?_) (fun _ => ?_)) | (refine gPG_var (fun _ => ?_) (fun _ => ?_)))
      exact ⟨_, _, _, by omega, .refl _ _, k + 1, rfl, hlt, by rw [hl2]; rfl, rfl⟩
    · have : k = L.length := by omega
      subst this
      rw [List.take_length]
      by_cases hz : (cat L).length = 0
      · repeat' (first | (simp (disch := first | omega | assumption | (refine @id ((_ : Bool) = _) ?_; exact id (by with_unfolding_all rfl)) | (exact Or.inl rfl) | (exact Or.inl trivial) | (exact okL_map _ (fun _ => rfl) _) | (simp only [List.length_map, List.length_set, List.length_replicate, List.length_cons, List.length_nil, List.length_append] <;> omega) | fail) only [VV0, VV1, VV2, VV3, VV4, VV5, VV6, VV7, mkFnV, vargs, slotsL, opdsA, not_true_eq_false, not_false_eq_true, decide_true, decide_false, Option.map_some, Option.bind_some, List.cons_append, List.nil_append, List.map_cons, List.map_nil, List.append_nil, Option.toList_some, Option.toList_none, Nat.reduceEqDiff, Nat.reduceLT, Nat.reduceAdd, Nat.reduceBEq, Int.reduceAdd, Int.reduceSub, Int.reduceLT, Int.reduceLE, Int.reduceEq, Int.reduceNeg, ↓reduceIte, if_true, if_false, Bool.false_eq_true, Bool.not_true, Bool.not_false, List.length_cons, List.length_nil, List.length_singleton, reduceCtorEq, Int.toNat_natCast, Nat.zero_add, Nat.add_zero, Nat.mul_one, Int.add_sub_cancel, eq_self, List.drop_zero, List.drop_succ_cons, Option.some.injEq, Prod.mk.injEq, Bool.and_true, Bool.true_and, Bool.and_self, true_or, List.set_cons_zero, List.set_cons_succ, scL, scD, expand, List.replicate, c28l1, hz]) | (refine gC_drawW ?_) | (refine gI_dec (fun _ => ?_) (fun _ => ?_)) | (refine gG_dec (fun _ => ?_) (fun _ => ?_)) | (refine gPG_dec (fun _ => ?_) (fun _ => ?_)) | (refine gI_var (fun _ => ?_) (fun _ => ?_)) | (refine gG_var (fun _ => ?_) (fun _ => ?_)) | (refine gPG_var (fun _ => ?_) (fun _ => ?_)))
        refine callV_flat ((fun st => (grow_zero w n).of hC rfl st rfl) _) ?_
        repeat' (first | (simp (disch := first | omega | assumption | (refine @id ((_ : Bool) = _) ?_; exact id (by with_unfolding_all rfl)) | (exact Or.inl rfl) | (exact Or.inl trivial) | (exact okL_map _ (fun _ => rfl) _) | (simp only [List.length_map, List.length_set, List.length_replicate, List.length_cons, List.length_nil, List.length_append] <;> omega) | fail) only [VV0, VV1, VV2, VV3, VV4, VV5, VV6, VV7, mkFnV, vargs, slotsL, opdsA, not_true_eq_false, not_false_eq_true, decide_true, decide_false, Option.map_some, Option.bind_some, List.cons_append, List.nil_append, List.map_cons, List.map_nil, List.append_nil, Option.toList_some, Option.toList_none, Nat.reduceEqDiff, Nat.reduceLT, Nat.reduceAdd, Nat.reduceBEq, Int.reduceAdd, Int.reduceSub, Int.reduceLT, Int.reduceLE, Int.reduceEq, Int.reduceNeg, ↓reduceIte, if_true, if_false, Bool.false_eq_true, Bool.not_true, Bool.not_false, List.length_cons, List.length_nil, List.length_singleton, reduceCtorEq, Int.toNat_natCast, Nat.zero_add, Nat.add_zero, Nat.mul_one, Int.add_sub_cancel, eq_self, List.drop_zero, List.drop_succ_cons, Option.some.injEq, Prod.mk.injEq, Bool.and_true, Bool.true_and, Bool.and_self, true_or, List.set_cons_zero, List.set_cons_succ, scL, scD, expand, List.replicate]) | (refine gC_drawW ?_) | (refine gI_dec (fun _ => ?_) (fun _ => ?_)) | (refine gG_dec (fun _ => ?_) (fun _ => ?_)) | (refine gPG_dec (fun _ => ?_) (fun _ => ?_)) | (refine gI_var (fun _ => ?_) (fun _ => ?_)) | (refine gG_var (fun _ => ?_) (fun _ => ?_)) | (refine gPG_var (fun _ => ?_) (fun _ => ?_)))
        refine g_while (fun m fr st => ∃ k : Nat, m = L.length - k ∧ k ≤ L.length ∧ fr = [(6, .sc (.slice none 0 0)), (25, .sl 0 L.length (L.map rowD)), (26, .sc (.int .i64 L.length)), (27, .sc (.int .i64 k))] ∧ st = ⟨[], 0, 0⟩) L.length ?_ ⟨_, _, .refl _ _, 0, ?_⟩ ?_
        · rw [hC, callP_rounds]; unfold many; omega
        · exact ⟨by omega, by omega, rfl, rfl⟩
        · rintro m fr st ⟨k, rfl, hkl, rfl, rfl⟩
          by_cases hlt : k < L.length
          · have hcs := cat_step hlt
            have hcl2 := cat_le (L := L) (k + 1)
            have hl2 : (cat (L.take (k + 1))).length = (cat (L.take k)).length + L[k]!.2.length := by rw [hcs, List.length_append]
            generalize hp : L[k]! = p at hl2
            obtain ⟨s, l⟩ := p
            simp only at hl2
            obtain rfl : l = [] := List.eq_nil_of_length_eq_zero (by omega)
            repeat' (first | (simp (disch := first | omega | assumption | (refine @id ((_ : Bool) = _) ?_; exact id (by with_unfolding_all rfl)) | (exact Or.inl rfl) | (exact Or.inl trivial) | (exact okL_map _ (fun _ => rfl) _) | (simp only [List.length_map, List.length_set, List.length_replicate, List.length_cons, List.length_nil, List.length_append] <;> omega) | fail) only [VV0, VV1, VV2, VV3, VV4, VV5, VV6, VV7, mkFnV, vargs, slotsL, opdsA, not_true_eq_false, not_false_eq_true, decide_true, decide_false, Option.map_some, Option.bind_some, List.cons_append, List.nil_append, List.map_cons, List.map_nil, List.append_nil, Option.toList_some, Option.toList_none, Nat.reduceEqDiff, Nat.reduceLT, Nat.reduceAdd, Nat.reduceBEq, Int.reduceAdd, Int.reduceSub, Int.reduceLT, Int.reduceLE, Int.reduceEq, Int.reduceNeg, ↓reduceIte, if_true, if_false, Bool.false_eq_true, Bool.not_true, Bool.not_false, List.length_cons, List.length_nil, List.length_singleton, reduceCtorEq, Int.toNat_natCast, Nat.zero_add, Nat.add_zero, Nat.mul_one, Int.add_sub_cancel, eq_self, List.drop_zero, List.drop_succ_cons, Option.some.injEq, Prod.mk.injEq, Bool.and_true, Bool.true_and, Bool.and_self, true_or, List.set_cons_zero, List.set_cons_succ, scL, scD, expand, List.replicate, c28l0, rowD_dv, hp]) | (refine gC_drawW ?_) | (refine gI_dec (fun _ => ?_) (fun _ => ?_)) | (refine gG_dec (fun _ => ?_) (fun _ => ?_)) | (refine gPG_dec (fun _ => ?_) (fun _ => ?_)) | (refine gI_var (fun _ => ?_) (fun _ => ?_)) | (refine gG_var (fun _ => ?_) (fun _ => ?_)) | (refine gPG_var (fun _ => ?_) (fun _ => ?_)))
            exact ⟨_, _, _, by omega, .refl _ _, k + 1, rfl, hlt, rfl, rfl⟩
          · have : k = L.length := by omega
            subst this
            have hc0 : cat L = [] := List.eq_nil_of_length_eq_zero hz
            rw [hc0]
            repeat' (first | (simp (disch := first | omega | assumption | (refine @id ((_ : Bool) = _) ?_; exact id (by with_unfolding_all rfl)) | (exact Or.inl rfl) | (exact Or.inl trivial) | (exact okL_map _ (fun _ => rfl) _) | (simp only [List.length_map, List.length_set, List.length_replicate, List.length_cons, List.length_nil, List.length_append] <;> omega) | fail) only [VV0, VV1, VV2, VV3, VV4, VV5, VV6, VV7, mkFnV, vargs, slotsL, opdsA, not_true_eq_false, not_false_eq_true, decide_true, decide_false, Option.map_some, Option.bind_some, List.cons_append, List.nil_append, List.map_cons, List.map_nil, List.append_nil, Option.toList_some, Option.toList_none, Nat.reduceEqDiff, Nat.reduceLT, Nat.reduceAdd, Nat.reduceBEq, Int.reduceAdd, Int.reduceSub, Int.reduceLT, Int.reduceLE, Int.reduceEq, Int.reduceNeg, ↓reduceIte, if_true, if_false, Bool.false_eq_true, Bool.not_true, Bool.not_false, List.length_cons, List.length_nil, List.length_singleton, reduceCtorEq, Int.toNat_natCast, Nat.zero_add, Nat.add_zero, Nat.mul_one, Int.add_sub_cancel, eq_self, List.drop_zero, List.drop_succ_cons, Option.some.injEq, Prod.mk.injEq, Bool.and_true, Bool.true_and, Bool.and_self, true_or, List.set_cons_zero, List.set_cons_succ, scL, scD, expand, List.replicate, c28l0]) | (refine gC_drawW ?_) | (refine gI_dec (fun _ => ?_) (fun _ => ?_)) | (refine gG_dec (fun _ => ?_) (fun _ => ?_)) | (refine gPG_dec (fun _ => ?_) (fun _ => ?_)) | (refine gI_var (fun _ => ?_) (fun _ => ?_)) | (refine gG_var (fun _ => ?_) (fun _ => ?_)) | (refine gPG_var (fun _ => ?_) (fun _ => ?_)))
            exact (weak_nilSlot 0 3 1 rfl).trans (.refl _ _)
      · have hgr := grow_p w n (cat L).length (by omega) (by omega)
        obtain ⟨T, hT0⟩ : ∃ T, (cat L).length = T := ⟨_, rfl⟩
        rw [hT0] at hgr hz hcl hT
        repeat' (first | (simp (disch := first | omega | assumption | (refine @id ((_ : Bool) = _) ?_; exact id (by with_unfolding_all rfl)) | (exact Or.inl rfl) | (exact Or.inl trivial) | (exact okL_map _ (fun _ => rfl) _) | (simp only [List.length_map, List.length_set, List.length_replicate, List.length_cons, List.length_nil, List.length_append] <;> omega) | fail) only [VV0, VV1, VV2, VV3, VV4, VV5, VV6, VV7, mkFnV, vargs, slotsL, opdsA, not_true_eq_false, not_false_eq_true, decide_true, decide_false, Option.map_some, Option.bind_some, List.cons_append, List.nil_append, List.map_cons, List.map_nil, List.append_nil, Option.toList_some, Option.toList_none, Nat.reduceEqDiff, Nat.reduceLT, Nat.reduceAdd, Nat.reduceBEq, Int.reduceAdd, Int.reduceSub, Int.reduceLT, Int.reduceLE, Int.reduceEq, Int.reduceNeg, ↓reduceIte, if_true, if_false, Bool.false_eq_true, Bool.not_true, Bool.not_false, List.length_cons, List.length_nil, List.length_singleton, reduceCtorEq, Int.toNat_natCast, Nat.zero_add, Nat.add_zero, Nat.mul_one, Int.add_sub_cancel, eq_self, List.drop_zero, List.drop_succ_cons, Option.some.injEq, Prod.mk.injEq, Bool.and_true, Bool.true_and, Bool.and_self, true_or, List.set_cons_zero, List.set_cons_succ, scL, scD, expand, List.replicate, c28l1, hT0]) | (refine gC_drawW ?_) | (refine gI_dec (fun _ => ?_) (fun _ => ?_)) | (refine gG_dec (fun _ => ?_) (fun _ => ?_)) | (refine gPG_dec (fun _ => ?_) (fun _ => ?_)) | (refine gI_var (fun _ => ?_) (fun _ => ?_)) | (refine gG_var (fun _ => ?_) (fun _ => ?_)) | (refine gPG_var (fun _ => ?_) (fun _ => ?_)))
        refine callV_of (by rw [hC]; exact hgr) rfl rfl rfl ?_
        repeat' (first | (simp (disch := first | omega | assumption | (refine @id ((_ : Bool) = _) ?_; exact id (by with_unfolding_all rfl)) | (exact Or.inl rfl) | (exact Or.inl trivial) | (exact okL_map _ (fun _ => rfl) _) | (simp only [List.length_map, List.length_set, List.length_replicate, List.length_cons, List.length_nil, List.length_append] <;> omega) | fail) only [VV0, VV1, VV2, VV3, VV4, VV5, VV6, VV7, mkFnV, vargs, slotsL, opdsA, not_true_eq_false, not_false_eq_true, decide_true, decide_false, Option.map_some, Option.bind_some, List.cons_append, List.nil_append, List.map_cons, List.map_nil, List.append_nil, Option.toList_some, Option.toList_none, Nat.reduceEqDiff, Nat.reduceLT, Nat.reduceAdd, Nat.reduceBEq, Int.reduceAdd, Int.reduceSub, Int.reduceLT, Int.reduceLE, Int.reduceEq, Int.reduceNeg, ↓reduceIte, if_true, if_false, Bool.false_eq_true, Bool.not_true, Bool.not_false, List.length_cons, List.length_nil, List.length_singleton, reduceCtorEq, Int.toNat_natCast, Nat.zero_add, Nat.add_zero, Nat.mul_one, Int.add_sub_cancel, eq_self, List.drop_zero, List.drop_succ_cons, Option.some.injEq, Prod.mk.injEq, Bool.and_true, Bool.true_and, Bool.and_self, true_or, List.set_cons_zero, List.set_cons_succ, scL, scD, expand, List.replicate, vsh, shH, shO, fzSL, fzS]) | (refine gC_drawW ?_) | (refine gI_dec (fun _ => ?_) (fun _ => ?_)) | (refine gG_dec (fun _ => ?_) (fun _ => ?_)) | (refine gPG_dec (fun _ => ?_) (fun _ => ?_)) | (refine gI_var (fun _ => ?_) (fun _ => ?_)) | (refine gG_var (fun _ => ?_) (fun _ => ?_)) | (refine gPG_var (fun _ => ?_) (fun _ => ?_)))
        refine g_while (fun m fr st => ∃ k : Nat, m = L.length - k ∧ k ≤ L.length ∧ fr = [(6, .ref 0 0 (cat (L.take k)).length (big + T)), (25, .sl 0 L.length (L.map rowD)), (26, .sc (.int .i64 L.length)), (27, .sc (.int .i64 k))] ∧ st = ⟨[(0, .row 3 1 true false ((cat (L.take k)).map iD ++ List.replicate (T - (cat (L.take k)).length) (.sc (.int .i64 0))))], 1, 0⟩) L.length ?_ ⟨_, _, .refl _ _, 0, ?_⟩ ?_
        · rw [hC, callP_rounds]; unfold many; omega
        · exact ⟨by omega, by omega, rfl, rfl⟩
        · rintro m fr st ⟨k, rfl, hkl, rfl, rfl⟩
          have hcl := cat_le (L := L) k
          rw [hT0] at hcl
          by_cases hlt : k < L.length
          · have hcs := cat_step hlt
            have hcl2 := cat_le (L := L) (k + 1)
            have hl2 : (cat (L.take (k + 1))).length = (cat (L.take k)).length + L[k]!.2.length := by rw [hcs, List.length_append]
            have hkk := hk L[k]! (by rw [getElem!_pos L k hlt]; exact List.getElem_mem hlt)
            generalize hp : L[k]! = p at hl2 hcs hkk
            obtain ⟨s, l⟩ := p
            simp only at hl2 hcs hkk
            rw [hT0] at hcl2
            by_cases hl0 : l = []
            · subst hl0
              rw [List.append_nil] at hcs
              repeat' (first | (simp (disch := first | omega | assumption | (refine @id ((_ : Bool) = _) ?_; exact id (by with_unfolding_all rfl)) | (exact Or.inl rfl) | (exact Or.inl trivial) | (exact okL_map _ (fun _ => rfl) _) | (simp only [List.length_map, List.length_set, List.length_replicate, List.length_cons, List.length_nil, List.length_append] <;> omega) | fail) only [VV0, VV1, VV2, VV3, VV4, VV5, VV6, VV7, mkFnV, vargs, slotsL, opdsA, not_true_eq_false, not_false_eq_true, decide_true, decide_false, Option.map_some, Option.bind_some, List.cons_append, List.nil_append, List.map_cons, List.map_nil, List.append_nil, Option.toList_some, Option.toList_none, Nat.reduceEqDiff, Nat.reduceLT, Nat.reduceAdd, Nat.reduceBEq, Int.reduceAdd, Int.reduceSub, Int.reduceLT, Int.reduceLE, Int.reduceEq, Int.reduceNeg, ↓reduceIte, if_true, if_false, Bool.false_eq_true, Bool.not_true, Bool.not_false, List.length_cons, List.length_nil, List.length_singleton, reduceCtorEq, Int.toNat_natCast, Nat.zero_add, Nat.add_zero, Nat.mul_one, Int.add_sub_cancel, eq_self, List.drop_zero, List.drop_succ_cons, Option.some.injEq, Prod.mk.injEq, Bool.and_true, Bool.true_and, Bool.and_self, true_or, List.set_cons_zero, List.set_cons_succ, scL, scD, expand, List.replicate, c28l0, rowD_dv, hp]) | (refine gC_drawW ?_) | (refine gI_dec (fun _ => ?_) (fun _ => ?_)) | (refine gG_dec (fun _ => ?_) (fun _ => ?_)) | (refine gPG_dec (fun _ => ?_) (fun _ => ?_)) | (refine gI_var (fun _ => ?_) (fun _ => ?_)) | (refine gG_var (fun _ => ?_) (fun _ => ?_)) | (refine gPG_var (fun _ => ?_) (fun _ => ?_)))
              exact ⟨_, _, _, by omega, .refl _ _, k + 1, rfl, hlt, by rw [hcs]; rfl, by rw [hcs]⟩
            · have hlp : l.length ≠ 0 := fun h => hl0 (List.eq_nil_of_length_eq_zero h)
              have hlm : (l.map iD).length = l.length * 1 := by simp
              have hrl : ((cat (L.take k)).map iD ++ List.replicate (T - (cat (L.take k)).length) (D.sc (.int .i64 0))).length = T := by simp; omega
              have hnT : (cat (L.take k)).length ≠ T := by omega
              have hrm := room_eq ((cat (L.take k)).map iD) (l.map iD) (D.sc (.int .i64 0)) T (by simp; omega)
              simp only [List.length_map] at hrm
              repeat' (first | (simp (disch := first | omega | assumption | (refine @id ((_ : Bool) = _) ?_; exact id (by with_unfolding_all rfl)) | (exact Or.inl rfl) | (exact Or.inl trivial) | (exact okL_map _ (fun _ => rfl) _) | (simp only [List.length_map, List.length_set, List.length_replicate, List.length_cons, List.length_nil, List.length_append] <;> omega) | fail) only [VV0, VV1, VV2, VV3, VV4, VV5, VV6, VV7, mkFnV, vargs, slotsL, opdsA, not_true_eq_false, not_false_eq_true, decide_true, decide_false, Option.map_some, Option.bind_some, List.cons_append, List.nil_append, List.map_cons, List.map_nil, List.append_nil, Option.toList_some, Option.toList_none, Nat.reduceEqDiff, Nat.reduceLT, Nat.reduceAdd, Nat.reduceBEq, Int.reduceAdd, Int.reduceSub, Int.reduceLT, Int.reduceLE, Int.reduceEq, Int.reduceNeg, ↓reduceIte, if_true, if_false, Bool.false_eq_true, Bool.not_true, Bool.not_false, List.length_cons, List.length_nil, List.length_singleton, reduceCtorEq, Int.toNat_natCast, Nat.zero_add, Nat.add_zero, Nat.mul_one, Int.add_sub_cancel, eq_self, List.drop_zero, List.drop_succ_cons, Option.some.injEq, Prod.mk.injEq, Bool.and_true, Bool.true_and, Bool.and_self, true_or, List.set_cons_zero, List.set_cons_succ, scL, scD, expand, List.replicate, c28l0, rowD_dv, hp, appFull_big]) | (refine gC_drawW ?_) | (refine gI_dec (fun _ => ?_) (fun _ => ?_)) | (refine gG_dec (fun _ => ?_) (fun _ => ?_)) | (refine gPG_dec (fun _ => ?_) (fun _ => ?_)) | (refine gI_var (fun _ => ?_) (fun _ => ?_)) | (refine gG_var (fun _ => ?_) (fun _ => ?_)) | (refine gPG_var (fun _ => ?_) (fun _ => ?_)))
              refine ⟨_, _, _, by omega, .refl _ _, k + 1, rfl, hlt, by rw [hl2]; rfl, ?_⟩
              simp only [List.length_map]
              rw [hl2, hcs, List.map_append, hrm]
          · have : k = L.length := by omega
            subst this
            rw [List.take_length, hT0]
            have hcn : (cat L).map iD ≠ [] := fun h => hz (by rw [← hT0, ← List.length_map (f := iD), h]; rfl)
            repeat' (first | (simp (disch := first | omega | assumption | (refine @id ((_ : Bool) = _) ?_; exact id (by with_unfolding_all rfl)) | (exact Or.inl rfl) | (exact Or.inl trivial) | (exact okL_map _ (fun _ => rfl) _) | (simp only [List.length_map, List.length_set, List.length_replicate, List.length_cons, List.length_nil, List.length_append] <;> omega) | fail) only [VV0, VV1, VV2, VV3, VV4, VV5, VV6, VV7, mkFnV, vargs, slotsL, opdsA, not_true_eq_false, not_false_eq_true, decide_true, decide_false, Option.map_some, Option.bind_some, List.cons_append, List.nil_append, List.map_cons, List.map_nil, List.append_nil, Option.toList_some, Option.toList_none, Nat.reduceEqDiff, Nat.reduceLT, Nat.reduceAdd, Nat.reduceBEq, Int.reduceAdd, Int.reduceSub, Int.reduceLT, Int.reduceLE, Int.reduceEq, Int.reduceNeg, ↓reduceIte, if_true, if_false, Bool.false_eq_true, Bool.not_true, Bool.not_false, List.length_cons, List.length_nil, List.length_singleton, reduceCtorEq, Int.toNat_natCast, Nat.zero_add, Nat.add_zero, Nat.mul_one, Int.add_sub_cancel, eq_self, List.drop_zero, List.drop_succ_cons, Option.some.injEq, Prod.mk.injEq, Bool.and_true, Bool.true_and, Bool.and_self, true_or, List.set_cons_zero, List.set_cons_succ, scL, scD, expand, List.replicate, c28l0, Nat.sub_self, List.replicate_zero]) | (refine gC_drawW ?_) | (refine gI_dec (fun _ => ?_) (fun _ => ?_)) | (refine gG_dec (fun _ => ?_) (fun _ => ?_)) | (refine gPG_dec (fun _ => ?_) (fun _ => ?_)) | (refine gI_var (fun _ => ?_) (fun _ => ?_)) | (refine gG_var (fun _ => ?_) (fun _ => ?_)) | (refine gPG_var (fun _ => ?_) (fun _ => ?_)))
            refine (weak_gro (o := 0) (t := 3) (e := 1) (z := false) (l := (cat L).map iD) ?_ hcn).trans ?_
            · rw [aget_cons, if_pos rfl]
            · exact (weak_slot (t := 0) (v := .ref 0 0 T (big + T)) (v' := .gr 2 0 T) rfl (same_rg hz)).trans (.refl _ _)
end
end Go.Proofs.Ytkjkiodoighgnaa
namespace Go.Proofs.Ytkjkiodoighgnaa
open Go Go.Itp
set_option maxRecDepth 100000
set_option maxHeartbeats 1000000
set_option linter.unusedSimpArgs false
theorem row2V_sl (nx : Nat) (t : TypeId) (z : Value) (hz : scOK z = true) (s n s' n' : Nat) (l l' : List D) (h : okD (.sl s n l) = true) (h' : okD (.sl s' n' l') = true) : mkRowV nx t 1 2 [z] [(0, 1, .sl s n l), (1, 1, .sl s' n' l')] = some (.ref nx 0 2 2, some (.row t 1 false false [.sl s n l, .sl s' n' l']), []) := by
  have h1 : ((rep [z] 2).all scOK && Nat.blt 2 big) = true := by simp [rep, hz, big]
  have h2 : dfill (scD (rep [z] 2)) [(0, 1, V.sl s n l), (1, 1, V.sl s' n' l')] = some [.sl s n l, .sl s' n' l'] := by
    simp [dfill, vcells, toD0L, toD0, h, h', scD, rep, putL]
  simp only [mkRowV, h1, if_true, h2]
theorem okD_ne {s n : Nat} {l : List D} (h : s ≠ 1) : okD (.sl s n l) = true := by
  simp only [okD, Bool.or_eq_true, Bool.not_eq_true', nbf]; exact .inl h
def reverseF (a : List Int) : List Int × Int := if chk a ≠ 0 then ([], chk a) else (a.reverse, 0)
theorem chkL_one (s : Nat) (a : List Int) : chkL [(s, a)] = chk a := by
  simp only [chkL]
  split
  · rename_i h; exact h.symm
  · rfl
theorem chk_len {a : List Int} (h : chk a = 0) : a.length ≤ 400 := by
  unfold chk at h
  split at h
  · cases h
  · omega
section
variable (w : World) (n : Nat)
theorem pjoin_p (s s' : Nat) (a b : List Int) (hs : s ≠ 1) (hs' : s' ≠ 1) (ha : a.length ≤ 5000) (hb : b.length ≤ 5000) : VSpec (EN w (n + 3)) 15 [.sl s a.length (a.map iD), .sl s' b.length (b.map iD)] (resV (joinF a b)) (resS (joinF a b)) := by
  refine vspec_g rfl rfl (fun _ _ => rfl) (Nat.le_of_ble_eq_true rfl) (oldVals w) (retOK_tgr (map_nil_iff rfl)) rfl fun C hC h0 => ?_
  have o1 : okD (.sl s a.length (a.map iD)) = true := okD_ne hs
  have o2 : okD (.sl s' b.length (b.map iD)) = true := okD_ne hs'
  have hlen : ∀ k, k < [(s, a), (s', b)].length → [(s, a), (s', b)][k]!.2.length ≤ 140737488351232 := fun k hk => by
    rcases k with _ | _ | k
    · show a.length ≤ _; omega
    · show b.length ≤ _; omega
    · simp at hk; omega
  have hck := check_p w (n + 1) [(s, a), (s', b)] (by simp) hlen
  have ec : chkL [(s, a), (s', b)] = chkL [(0, a), (0, b)] := rfl
  rw [ec] at hck
  by_cases c1 : chkL [(0, a), (0, b)] ≠ 0
  · have e : joinF a b = ([], chkL [(0, a), (0, b)]) := if_pos c1
    rw [e]
    generalize chkL [(0, a), (0, b)] = x at c1 hck
    repeat' (first | (simp (disch := first | omega | assumption | (refine @id ((_ : Bool) = _) ?_; exact id (by with_unfolding_all rfl)) | (exact Or.inl rfl) | (exact Or.inl trivial) | (exact okL_map _ (fun _ => rfl) _) | (simp only [List.length_map, List.length_set, List.length_replicate, List.length_cons, List.length_nil, List.length_append] <;> omega) | fail) only [VV0, VV1, VV2, VV3, VV4, VV5, VV6, VV7, mkFnV, vargs, slotsL, opdsA, not_true_eq_false, not_false_eq_true, decide_true, decide_false, Option.map_some, Option.bind_some, List.cons_append, List.nil_append, List.map_cons, List.map_nil, List.append_nil, Option.toList_some, Option.toList_none, Nat.reduceEqDiff, Nat.reduceLT, Nat.reduceAdd, Nat.reduceBEq, Int.reduceAdd, Int.reduceSub, Int.reduceLT, Int.reduceLE, Int.reduceEq, Int.reduceNeg, ↓reduceIte, if_true, if_false, Bool.false_eq_true, Bool.not_true, Bool.not_false, List.length_cons, List.length_nil, List.length_singleton, reduceCtorEq, Int.toNat_natCast, Nat.zero_add, Nat.add_zero, Nat.mul_one, Int.add_sub_cancel, eq_self, List.drop_zero, List.drop_succ_cons, Option.some.injEq, Prod.mk.injEq, Bool.and_true, Bool.true_and, Bool.and_self, true_or, List.set_cons_zero, List.set_cons_succ, scL, scD, expand, List.replicate, c15, row2V_sl]) | (refine gC_drawW ?_) | (refine gI_dec (fun _ => ?_) (fun _ => ?_)) | (refine gG_dec (fun _ => ?_) (fun _ => ?_)) | (refine gPG_dec (fun _ => ?_) (fun _ => ?_)) | (refine gI_var (fun _ => ?_) (fun _ => ?_)) | (refine gG_var (fun _ => ?_) (fun _ => ?_)) | (refine gPG_var (fun _ => ?_) (fun _ => ?_)))
    refine callV_flat (by rw [hC]; exact hck.flat rfl rfl) ?_
    repeat' (first | (simp (disch := first | omega | assumption | (refine @id ((_ : Bool) = _) ?_; exact id (by with_unfolding_all rfl)) | (exact Or.inl rfl) | (exact Or.inl trivial) | (exact okL_map _ (fun _ => rfl) _) | (simp only [List.length_map, List.length_set, List.length_replicate, List.length_cons, List.length_nil, List.length_append] <;> omega) | fail) only [VV0, VV1, VV2, VV3, VV4, VV5, VV6, VV7, mkFnV, vargs, slotsL, opdsA, not_true_eq_false, not_false_eq_true, decide_true, decide_false, Option.map_some, Option.bind_some, List.cons_append, List.nil_append, List.map_cons, List.map_nil, List.append_nil, Option.toList_some, Option.toList_none, Nat.reduceEqDiff, Nat.reduceLT, Nat.reduceAdd, Nat.reduceBEq, Int.reduceAdd, Int.reduceSub, Int.reduceLT, Int.reduceLE, Int.reduceEq, Int.reduceNeg, ↓reduceIte, if_true, if_false, Bool.false_eq_true, Bool.not_true, Bool.not_false, List.length_cons, List.length_nil, List.length_singleton, reduceCtorEq, Int.toNat_natCast, Nat.zero_add, Nat.add_zero, Nat.mul_one, Int.add_sub_cancel, eq_self, List.drop_zero, List.drop_succ_cons, Option.some.injEq, Prod.mk.injEq, Bool.and_true, Bool.true_and, Bool.and_self, true_or, List.set_cons_zero, List.set_cons_succ, scL, scD, expand, List.replicate]) | (refine gC_drawW ?_) | (refine gI_dec (fun _ => ?_) (fun _ => ?_)) | (refine gG_dec (fun _ => ?_) (fun _ => ?_)) | (refine gPG_dec (fun _ => ?_) (fun _ => ?_)) | (refine gI_var (fun _ => ?_) (fun _ => ?_)) | (refine gG_var (fun _ => ?_) (fun _ => ?_)) | (refine gPG_var (fun _ => ?_) (fun _ => ?_)))
    all_goals first | exact weak_tupNil 3 1 rfl h0 rfl | contradiction
  have c1' : chkL [(0, a), (0, b)] = 0 := Classical.not_not.1 c1
  rw [c1'] at hck
  have hcl : (cat [(s, a), (s', b)]) = a ++ b := by simp [cat]
  by_cases c2 : 400 < a.length + b.length
  · have e : joinF a b = ([], 4) := by unfold joinF; rw [if_neg c1, if_pos c2]
    rw [e]
    repeat' (first | (simp (disch := first | omega | assumption | (refine @id ((_ : Bool) = _) ?_; exact id (by with_unfolding_all rfl)) | (exact Or.inl rfl) | (exact Or.inl trivial) | (exact okL_map _ (fun _ => rfl) _) | (simp only [List.length_map, List.length_set, List.length_replicate, List.length_cons, List.length_nil, List.length_append] <;> omega) | fail) only [VV0, VV1, VV2, VV3, VV4, VV5, VV6, VV7, mkFnV, vargs, slotsL, opdsA, not_true_eq_false, not_false_eq_true, decide_true, decide_false, Option.map_some, Option.bind_some, List.cons_append, List.nil_append, List.map_cons, List.map_nil, List.append_nil, Option.toList_some, Option.toList_none, Nat.reduceEqDiff, Nat.reduceLT, Nat.reduceAdd, Nat.reduceBEq, Int.reduceAdd, Int.reduceSub, Int.reduceLT, Int.reduceLE, Int.reduceEq, Int.reduceNeg, ↓reduceIte, if_true, if_false, Bool.false_eq_true, Bool.not_true, Bool.not_false, List.length_cons, List.length_nil, List.length_singleton, reduceCtorEq, Int.toNat_natCast, Nat.zero_add, Nat.add_zero, Nat.mul_one, Int.add_sub_cancel, eq_self, List.drop_zero, List.drop_succ_cons, Option.some.injEq, Prod.mk.injEq, Bool.and_true, Bool.true_and, Bool.and_self, true_or, List.set_cons_zero, List.set_cons_succ, scL, scD, expand, List.replicate, c15, row2V_sl]) | (refine gC_drawW ?_) | (refine gI_dec (fun _ => ?_) (fun _ => ?_)) | (refine gG_dec (fun _ => ?_) (fun _ => ?_)) | (refine gPG_dec (fun _ => ?_) (fun _ => ?_)) | (refine gI_var (fun _ => ?_) (fun _ => ?_)) | (refine gG_var (fun _ => ?_) (fun _ => ?_)) | (refine gPG_var (fun _ => ?_) (fun _ => ?_)))
    refine callV_flat (by rw [hC]; exact hck.flat rfl rfl) ?_
    repeat' (first | (simp (disch := first | omega | assumption | (refine @id ((_ : Bool) = _) ?_; exact id (by with_unfolding_all rfl)) | (exact Or.inl rfl) | (exact Or.inl trivial) | (exact okL_map _ (fun _ => rfl) _) | (simp only [List.length_map, List.length_set, List.length_replicate, List.length_cons, List.length_nil, List.length_append] <;> omega) | fail) only [VV0, VV1, VV2, VV3, VV4, VV5, VV6, VV7, mkFnV, vargs, slotsL, opdsA, not_true_eq_false, not_false_eq_true, decide_true, decide_false, Option.map_some, Option.bind_some, List.cons_append, List.nil_append, List.map_cons, List.map_nil, List.append_nil, Option.toList_some, Option.toList_none, Nat.reduceEqDiff, Nat.reduceLT, Nat.reduceAdd, Nat.reduceBEq, Int.reduceAdd, Int.reduceSub, Int.reduceLT, Int.reduceLE, Int.reduceEq, Int.reduceNeg, ↓reduceIte, if_true, if_false, Bool.false_eq_true, Bool.not_true, Bool.not_false, List.length_cons, List.length_nil, List.length_singleton, reduceCtorEq, Int.toNat_natCast, Nat.zero_add, Nat.add_zero, Nat.mul_one, Int.add_sub_cancel, eq_self, List.drop_zero, List.drop_succ_cons, Option.some.injEq, Prod.mk.injEq, Bool.and_true, Bool.true_and, Bool.and_self, true_or, List.set_cons_zero, List.set_cons_succ, scL, scD, expand, List.replicate]) | (refine gC_drawW ?_) | (refine gI_dec (fun _ => ?_) (fun _ => ?_)) | (refine gG_dec (fun _ => ?_) (fun _ => ?_)) | (refine gPG_dec (fun _ => ?_) (fun _ => ?_)) | (refine gI_var (fun _ => ?_) (fun _ => ?_)) | (refine gG_var (fun _ => ?_) (fun _ => ?_)) | (refine gPG_var (fun _ => ?_) (fun _ => ?_)))
    exact weak_tupNil 3 1 rfl h0 rfl
  have e : joinF a b = (a ++ b, 0) := by unfold joinF; rw [if_neg c1, if_neg c2]
  rw [e]
  have hcc := concat_p w n [(s, a), (s', b)] (by simp) (by simp [hs, hs']) (by rw [hcl, List.length_append]; omega)
  rw [hcl] at hcc
  repeat' (first | (simp (disch := first | omega | assumption | (refine @id ((_ : Bool) = _) ?_; exact id (by with_unfolding_all rfl)) | (exact Or.inl rfl) | (exact Or.inl trivial) | (exact okL_map _ (fun _ => rfl) _) | (simp only [List.length_map, List.length_set, List.length_replicate, List.length_cons, List.length_nil, List.length_append] <;> omega) | fail) only [VV0, VV1, VV2, VV3, VV4, VV5, VV6, VV7, mkFnV, vargs, slotsL, opdsA, not_true_eq_false, not_false_eq_true, decide_true, decide_false, Option.map_some, Option.bind_some, List.cons_append, List.nil_append, List.map_cons, List.map_nil, List.append_nil, Option.toList_some, Option.toList_none, Nat.reduceEqDiff, Nat.reduceLT, Nat.reduceAdd, Nat.reduceBEq, Int.reduceAdd, Int.reduceSub, Int.reduceLT, Int.reduceLE, Int.reduceEq, Int.reduceNeg, ↓reduceIte, if_true, if_false, Bool.false_eq_true, Bool.not_true, Bool.not_false, List.length_cons, List.length_nil, List.length_singleton, reduceCtorEq, Int.toNat_natCast, Nat.zero_add, Nat.add_zero, Nat.mul_one, Int.add_sub_cancel, eq_self, List.drop_zero, List.drop_succ_cons, Option.some.injEq, Prod.mk.injEq, Bool.and_true, Bool.true_and, Bool.and_self, true_or, List.set_cons_zero, List.set_cons_succ, scL, scD, expand, List.replicate, c15, row2V_sl]) | (refine gC_drawW ?_) | (refine gI_dec (fun _ => ?_) (fun _ => ?_)) | (refine gG_dec (fun _ => ?_) (fun _ => ?_)) | (refine gPG_dec (fun _ => ?_) (fun _ => ?_)) | (refine gI_var (fun _ => ?_) (fun _ => ?_)) | (refine gG_var (fun _ => ?_) (fun _ => ?_)) | (refine gPG_var (fun _ => ?_) (fun _ => ?_)))
  refine callV_flat (by rw [hC]; exact hck.flat rfl rfl) ?_
  repeat' (first | (simp (disch := first | omega | assumption | (refine @id ((_ : Bool) = _) ?_; exact id (by with_unfolding_all rfl)) | (exact Or.inl rfl) | (exact Or.inl trivial) | (exact okL_map _ (fun _ => rfl) _) | (simp only [List.length_map, List.length_set, List.length_replicate, List.length_cons, List.length_nil, List.length_append] <;> omega) | fail) only [VV0, VV1, VV2, VV3, VV4, VV5, VV6, VV7, mkFnV, vargs, slotsL, opdsA, not_true_eq_false, not_false_eq_true, decide_true, decide_false, Option.map_some, Option.bind_some, List.cons_append, List.nil_append, List.map_cons, List.map_nil, List.append_nil, Option.toList_some, Option.toList_none, Nat.reduceEqDiff, Nat.reduceLT, Nat.reduceAdd, Nat.reduceBEq, Int.reduceAdd, Int.reduceSub, Int.reduceLT, Int.reduceLE, Int.reduceEq, Int.reduceNeg, ↓reduceIte, if_true, if_false, Bool.false_eq_true, Bool.not_true, Bool.not_false, List.length_cons, List.length_nil, List.length_singleton, reduceCtorEq, Int.toNat_natCast, Nat.zero_add, Nat.add_zero, Nat.mul_one, Int.add_sub_cancel, eq_self, List.drop_zero, List.drop_succ_cons, Option.some.injEq, Prod.mk.injEq, Bool.and_true, Bool.true_and, Bool.and_self, true_or, List.set_cons_zero, List.set_cons_succ, scL, scD, expand, List.replicate, row2V_sl]) | (refine gC_drawW ?_) | (refine gI_dec (fun _ => ?_) (fun _ => ?_)) | (refine gG_dec (fun _ => ?_) (fun _ => ?_)) | (refine gPG_dec (fun _ => ?_) (fun _ => ?_)) | (refine gI_var (fun _ => ?_) (fun _ => ?_)) | (refine gG_var (fun _ => ?_) (fun _ => ?_)) | (refine gPG_var (fun _ => ?_) (fun _ => ?_)))
  refine callV_of (by rw [hC]; exact hcc) rfl rfl rfl ?_
  repeat' (first | (simp (disch := first | omega | assumption | (refine @id ((_ : Bool) = _) ?_; exact id (by with_unfolding_all rfl)) | (exact Or.inl rfl) | (exact Or.inl trivial) | (exact okL_map _ (fun _ => rfl) _) | (simp only [List.length_map, List.length_set, List.length_replicate, List.length_cons, List.length_nil, List.length_append] <;> omega) | fail) only [VV0, VV1, VV2, VV3, VV4, VV5, VV6, VV7, mkFnV, vargs, slotsL, opdsA, not_true_eq_false, not_false_eq_true, decide_true, decide_false, Option.map_some, Option.bind_some, List.cons_append, List.nil_append, List.map_cons, List.map_nil, List.append_nil, Option.toList_some, Option.toList_none, Nat.reduceEqDiff, Nat.reduceLT, Nat.reduceAdd, Nat.reduceBEq, Int.reduceAdd, Int.reduceSub, Int.reduceLT, Int.reduceLE, Int.reduceEq, Int.reduceNeg, ↓reduceIte, if_true, if_false, Bool.false_eq_true, Bool.not_true, Bool.not_false, List.length_cons, List.length_nil, List.length_singleton, reduceCtorEq, Int.toNat_natCast, Nat.zero_add, Nat.add_zero, Nat.mul_one, Int.add_sub_cancel, eq_self, List.drop_zero, List.drop_succ_cons, Option.some.injEq, Prod.mk.injEq, Bool.and_true, Bool.true_and, Bool.and_self, true_or, List.set_cons_zero, List.set_cons_succ, scL, scD, expand, List.replicate, vsh, shH, shO, fzSL, fzS]) | (refine gC_drawW ?_) | (refine gI_dec (fun _ => ?_) (fun _ => ?_)) | (refine gG_dec (fun _ => ?_) (fun _ => ?_)) | (refine gPG_dec (fun _ => ?_) (fun _ => ?_)) | (refine gI_var (fun _ => ?_) (fun _ => ?_)) | (refine gG_var (fun _ => ?_) (fun _ => ?_)) | (refine gPG_var (fun _ => ?_) (fun _ => ?_)))
  exact weak_to [(2, 0)] 1 h0 rfl rfl rfl rfl
theorem rjoin_p (s s' : Nat) (a b : List Int) (hs : s ≠ 1) (hs' : s' ≠ 1) (ha : a.length ≤ 5000) (hb : b.length ≤ 5000) : VSpec (EN w (n + 3)) 16 [.sl s a.length (a.map iD), .sl s' b.length (b.map iD)] (finV (joinF a b)) ⟨[], 0, 0⟩ := by
  refine vspec_g rfl rfl (fun _ _ => rfl) (Nat.le_of_ble_eq_true rfl) (oldVals w) retOK_fin rfl fun C hC h0 => ?_
  have o1 : okD (.sl s a.length (a.map iD)) = true := okD_ne hs
  have o2 : okD (.sl s' b.length (b.map iD)) = true := okD_ne hs'
  have hck := fun st => (both_p w n s s' a b (by omega) (by omega)).of hC rfl st rfl
  have ec : chkL [(s, a), (s', b)] = chkL [(0, a), (0, b)] := rfl
  rw [ec] at hck
  by_cases c1 : chkL [(0, a), (0, b)] ≠ 0
  · have e : joinF a b = ([], chkL [(0, a), (0, b)]) := if_pos c1
    rw [e]
    generalize chkL [(0, a), (0, b)] = x at c1 hck
    repeat' (first | (simp (disch := first | omega | assumption | (refine @id ((_ : Bool) = _) ?_; exact id (by with_unfolding_all rfl)) | (exact Or.inl rfl) | (exact Or.inl trivial) | (exact okL_map _ (fun _ => rfl) _) | (simp only [List.length_map, List.length_set, List.length_replicate, List.length_cons, List.length_nil, List.length_append] <;> omega) | fail) only [VV0, VV1, VV2, VV3, VV4, VV5, VV6, VV7, mkFnV, vargs, slotsL, opdsA, not_true_eq_false, not_false_eq_true, decide_true, decide_false, Option.map_some, Option.bind_some, List.cons_append, List.nil_append, List.map_cons, List.map_nil, List.append_nil, Option.toList_some, Option.toList_none, Nat.reduceEqDiff, Nat.reduceLT, Nat.reduceAdd, Nat.reduceBEq, Int.reduceAdd, Int.reduceSub, Int.reduceLT, Int.reduceLE, Int.reduceEq, Int.reduceNeg, ↓reduceIte, if_true, if_false, Bool.false_eq_true, Bool.not_true, Bool.not_false, List.length_cons, List.length_nil, List.length_singleton, reduceCtorEq, Int.toNat_natCast, Nat.zero_add, Nat.add_zero, Nat.mul_one, Int.add_sub_cancel, eq_self, List.drop_zero, List.drop_succ_cons, Option.some.injEq, Prod.mk.injEq, Bool.and_true, Bool.true_and, Bool.and_self, true_or, List.set_cons_zero, List.set_cons_succ, scL, scD, expand, List.replicate, c16]) | (refine gC_drawW ?_) | (refine gI_dec (fun _ => ?_) (fun _ => ?_)) | (refine gG_dec (fun _ => ?_) (fun _ => ?_)) | (refine gPG_dec (fun _ => ?_) (fun _ => ?_)) | (refine gI_var (fun _ => ?_) (fun _ => ?_)) | (refine gG_var (fun _ => ?_) (fun _ => ?_)) | (refine gPG_var (fun _ => ?_) (fun _ => ?_)))
    refine callV_flat (hck _) ?_
    repeat' (first | (simp (disch := first | omega | assumption | (refine @id ((_ : Bool) = _) ?_; exact id (by with_unfolding_all rfl)) | (exact Or.inl rfl) | (exact Or.inl trivial) | (exact okL_map _ (fun _ => rfl) _) | (simp only [List.length_map, List.length_set, List.length_replicate, List.length_cons, List.length_nil, List.length_append] <;> omega) | fail) only [VV0, VV1, VV2, VV3, VV4, VV5, VV6, VV7, mkFnV, vargs, slotsL, opdsA, not_true_eq_false, not_false_eq_true, decide_true, decide_false, Option.map_some, Option.bind_some, List.cons_append, List.nil_append, List.map_cons, List.map_nil, List.append_nil, Option.toList_some, Option.toList_none, Nat.reduceEqDiff, Nat.reduceLT, Nat.reduceAdd, Nat.reduceBEq, Int.reduceAdd, Int.reduceSub, Int.reduceLT, Int.reduceLE, Int.reduceEq, Int.reduceNeg, ↓reduceIte, if_true, if_false, Bool.false_eq_true, Bool.not_true, Bool.not_false, List.length_cons, List.length_nil, List.length_singleton, reduceCtorEq, Int.toNat_natCast, Nat.zero_add, Nat.add_zero, Nat.mul_one, Int.add_sub_cancel, eq_self, List.drop_zero, List.drop_succ_cons, Option.some.injEq, Prod.mk.injEq, Bool.and_true, Bool.true_and, Bool.and_self, true_or, List.set_cons_zero, List.set_cons_succ, scL, scD, expand, List.replicate]) | (refine gC_drawW ?_) | (refine gI_dec (fun _ => ?_) (fun _ => ?_)) | (refine gG_dec (fun _ => ?_) (fun _ => ?_)) | (refine gPG_dec (fun _ => ?_) (fun _ => ?_)) | (refine gI_var (fun _ => ?_) (fun _ => ?_)) | (refine gG_var (fun _ => ?_) (fun _ => ?_)) | (refine gPG_var (fun _ => ?_) (fun _ => ?_)))
    all_goals try contradiction
    refine callV_flat (hck _) ?_
    repeat' (first | (simp (disch := first | omega | assumption | (refine @id ((_ : Bool) = _) ?_; exact id (by with_unfolding_all rfl)) | (exact Or.inl rfl) | (exact Or.inl trivial) | (exact okL_map _ (fun _ => rfl) _) | (simp only [List.length_map, List.length_set, List.length_replicate, List.length_cons, List.length_nil, List.length_append] <;> omega) | fail) only [VV0, VV1, VV2, VV3, VV4, VV5, VV6, VV7, mkFnV, vargs, slotsL, opdsA, not_true_eq_false, not_false_eq_true, decide_true, decide_false, Option.map_some, Option.bind_some, List.cons_append, List.nil_append, List.map_cons, List.map_nil, List.append_nil, Option.toList_some, Option.toList_none, Nat.reduceEqDiff, Nat.reduceLT, Nat.reduceAdd, Nat.reduceBEq, Int.reduceAdd, Int.reduceSub, Int.reduceLT, Int.reduceLE, Int.reduceEq, Int.reduceNeg, ↓reduceIte, if_true, if_false, Bool.false_eq_true, Bool.not_true, Bool.not_false, List.length_cons, List.length_nil, List.length_singleton, reduceCtorEq, Int.toNat_natCast, Nat.zero_add, Nat.add_zero, Nat.mul_one, Int.add_sub_cancel, eq_self, List.drop_zero, List.drop_succ_cons, Option.some.injEq, Prod.mk.injEq, Bool.and_true, Bool.true_and, Bool.and_self, true_or, List.set_cons_zero, List.set_cons_succ, scL, scD, expand, List.replicate]) | (refine gC_drawW ?_) | (refine gI_dec (fun _ => ?_) (fun _ => ?_)) | (refine gG_dec (fun _ => ?_) (fun _ => ?_)) | (refine gPG_dec (fun _ => ?_) (fun _ => ?_)) | (refine gI_var (fun _ => ?_) (fun _ => ?_)) | (refine gG_var (fun _ => ?_) (fun _ => ?_)) | (refine gPG_var (fun _ => ?_) (fun _ => ?_)))
    exact weak_finNil h0 rfl
  have c1' : chkL [(0, a), (0, b)] = 0 := Classical.not_not.1 c1
  rw [c1'] at hck
  by_cases c2 : 400 < a.length + b.length
  · have e : joinF a b = ([], 4) := by unfold joinF; rw [if_neg c1, if_pos c2]
    rw [e]
    repeat' (first | (simp (disch := first | omega | assumption | (refine @id ((_ : Bool) = _) ?_; exact id (by with_unfolding_all rfl)) | (exact Or.inl rfl) | (exact Or.inl trivial) | (exact okL_map _ (fun _ => rfl) _) | (simp only [List.length_map, List.length_set, List.length_replicate, List.length_cons, List.length_nil, List.length_append] <;> omega) | fail) only [VV0, VV1, VV2, VV3, VV4, VV5, VV6, VV7, mkFnV, vargs, slotsL, opdsA, not_true_eq_false, not_false_eq_true, decide_true, decide_false, Option.map_some, Option.bind_some, List.cons_append, List.nil_append, List.map_cons, List.map_nil, List.append_nil, Option.toList_some, Option.toList_none, Nat.reduceEqDiff, Nat.reduceLT, Nat.reduceAdd, Nat.reduceBEq, Int.reduceAdd, Int.reduceSub, Int.reduceLT, Int.reduceLE, Int.reduceEq, Int.reduceNeg, ↓reduceIte, if_true, if_false, Bool.false_eq_true, Bool.not_true, Bool.not_false, List.length_cons, List.length_nil, List.length_singleton, reduceCtorEq, Int.toNat_natCast, Nat.zero_add, Nat.add_zero, Nat.mul_one, Int.add_sub_cancel, eq_self, List.drop_zero, List.drop_succ_cons, Option.some.injEq, Prod.mk.injEq, Bool.and_true, Bool.true_and, Bool.and_self, true_or, List.set_cons_zero, List.set_cons_succ, scL, scD, expand, List.replicate, c16]) | (refine gC_drawW ?_) | (refine gI_dec (fun _ => ?_) (fun _ => ?_)) | (refine gG_dec (fun _ => ?_) (fun _ => ?_)) | (refine gPG_dec (fun _ => ?_) (fun _ => ?_)) | (refine gI_var (fun _ => ?_) (fun _ => ?_)) | (refine gG_var (fun _ => ?_) (fun _ => ?_)) | (refine gPG_var (fun _ => ?_) (fun _ => ?_)))
    refine callV_flat (hck _) ?_
    repeat' (first | (simp (disch := first | omega | assumption | (refine @id ((_ : Bool) = _) ?_; exact id (by with_unfolding_all rfl)) | (exact Or.inl rfl) | (exact Or.inl trivial) | (exact okL_map _ (fun _ => rfl) _) | (simp only [List.length_map, List.length_set, List.length_replicate, List.length_cons, List.length_nil, List.length_append] <;> omega) | fail) only [VV0, VV1, VV2, VV3, VV4, VV5, VV6, VV7, mkFnV, vargs, slotsL, opdsA, not_true_eq_false, not_false_eq_true, decide_true, decide_false, Option.map_some, Option.bind_some, List.cons_append, List.nil_append, List.map_cons, List.map_nil, List.append_nil, Option.toList_some, Option.toList_none, Nat.reduceEqDiff, Nat.reduceLT, Nat.reduceAdd, Nat.reduceBEq, Int.reduceAdd, Int.reduceSub, Int.reduceLT, Int.reduceLE, Int.reduceEq, Int.reduceNeg, ↓reduceIte, if_true, if_false, Bool.false_eq_true, Bool.not_true, Bool.not_false, List.length_cons, List.length_nil, List.length_singleton, reduceCtorEq, Int.toNat_natCast, Nat.zero_add, Nat.add_zero, Nat.mul_one, Int.add_sub_cancel, eq_self, List.drop_zero, List.drop_succ_cons, Option.some.injEq, Prod.mk.injEq, Bool.and_true, Bool.true_and, Bool.and_self, true_or, List.set_cons_zero, List.set_cons_succ, scL, scD, expand, List.replicate]) | (refine gC_drawW ?_) | (refine gI_dec (fun _ => ?_) (fun _ => ?_)) | (refine gG_dec (fun _ => ?_) (fun _ => ?_)) | (refine gPG_dec (fun _ => ?_) (fun _ => ?_)) | (refine gI_var (fun _ => ?_) (fun _ => ?_)) | (refine gG_var (fun _ => ?_) (fun _ => ?_)) | (refine gPG_var (fun _ => ?_) (fun _ => ?_)))
    exact weak_finNil h0 rfl
  have e : joinF a b = (a ++ b, 0) := by unfold joinF; rw [if_neg c1, if_neg c2]
  rw [e]
  have fin : ∀ {o : Nat} {st : VSt} (ho : aget st.own o = some (.gro 3 1 false (a.map iD ++ b.map iD))) (hro : st.ro = 0), Weak C [(0, .tup [.gr 2 o (a.length + b.length), .sc (.int .i64 0)])] st [(0, finV (a ++ b, 0))] ⟨[], 0, 0⟩ := by
    intro o st ho hro
    have := weak_finG (C := C) (x := .int .i64 0) (l := a ++ b) (t := 3) (o := o) (z := false) (st := st) (by rw [List.map_append]; exact ho) rfl h0 hro
    simpa only [finV, List.length_append] using this
  by_cases ha0 : a = []
  · subst ha0
    by_cases hb0 : b = []
    · subst hb0
      repeat' (first | (simp (disch := first | omega | assumption | (refine @id ((_ : Bool) = _) ?_; exact id (by with_unfolding_all rfl)) | (exact Or.inl rfl) | (exact Or.inl trivial) | (exact okL_map _ (fun _ => rfl) _) | (simp only [List.length_map, List.length_set, List.length_replicate, List.length_cons, List.length_nil, List.length_append] <;> omega) | fail) only [VV0, VV1, VV2, VV3, VV4, VV5, VV6, VV7, mkFnV, vargs, slotsL, opdsA, not_true_eq_false, not_false_eq_true, decide_true, decide_false, Option.map_some, Option.bind_some, List.cons_append, List.nil_append, List.map_cons, List.map_nil, List.append_nil, Option.toList_some, Option.toList_none, Nat.reduceEqDiff, Nat.reduceLT, Nat.reduceAdd, Nat.reduceBEq, Int.reduceAdd, Int.reduceSub, Int.reduceLT, Int.reduceLE, Int.reduceEq, Int.reduceNeg, ↓reduceIte, if_true, if_false, Bool.false_eq_true, Bool.not_true, Bool.not_false, List.length_cons, List.length_nil, List.length_singleton, reduceCtorEq, Int.toNat_natCast, Nat.zero_add, Nat.add_zero, Nat.mul_one, Int.add_sub_cancel, eq_self, List.drop_zero, List.drop_succ_cons, Option.some.injEq, Prod.mk.injEq, Bool.and_true, Bool.true_and, Bool.and_self, true_or, List.set_cons_zero, List.set_cons_succ, scL, scD, expand, List.replicate, c16]) | (refine gC_drawW ?_) | (refine gI_dec (fun _ => ?_) (fun _ => ?_)) | (refine gG_dec (fun _ => ?_) (fun _ => ?_)) | (refine gPG_dec (fun _ => ?_) (fun _ => ?_)) | (refine gI_var (fun _ => ?_) (fun _ => ?_)) | (refine gG_var (fun _ => ?_) (fun _ => ?_)) | (refine gPG_var (fun _ => ?_) (fun _ => ?_)))
      refine callV_flat (hck _) ?_
      repeat' (first | (simp (disch := first | omega | assumption | (refine @id ((_ : Bool) = _) ?_; exact id (by with_unfolding_all rfl)) | (exact Or.inl rfl) | (exact Or.inl trivial) | (exact okL_map _ (fun _ => rfl) _) | (simp only [List.length_map, List.length_set, List.length_replicate, List.length_cons, List.length_nil, List.length_append] <;> omega) | fail) only [VV0, VV1, VV2, VV3, VV4, VV5, VV6, VV7, mkFnV, vargs, slotsL, opdsA, not_true_eq_false, not_false_eq_true, decide_true, decide_false, Option.map_some, Option.bind_some, List.cons_append, List.nil_append, List.map_cons, List.map_nil, List.append_nil, Option.toList_some, Option.toList_none, Nat.reduceEqDiff, Nat.reduceLT, Nat.reduceAdd, Nat.reduceBEq, Int.reduceAdd, Int.reduceSub, Int.reduceLT, Int.reduceLE, Int.reduceEq, Int.reduceNeg, ↓reduceIte, if_true, if_false, Bool.false_eq_true, Bool.not_true, Bool.not_false, List.length_cons, List.length_nil, List.length_singleton, reduceCtorEq, Int.toNat_natCast, Nat.zero_add, Nat.add_zero, Nat.mul_one, Int.add_sub_cancel, eq_self, List.drop_zero, List.drop_succ_cons, Option.some.injEq, Prod.mk.injEq, Bool.and_true, Bool.true_and, Bool.and_self, true_or, List.set_cons_zero, List.set_cons_succ, scL, scD, expand, List.replicate]) | (refine gC_drawW ?_) | (refine gI_dec (fun _ => ?_) (fun _ => ?_)) | (refine gG_dec (fun _ => ?_) (fun _ => ?_)) | (refine gPG_dec (fun _ => ?_) (fun _ => ?_)) | (refine gI_var (fun _ => ?_) (fun _ => ?_)) | (refine gG_var (fun _ => ?_) (fun _ => ?_)) | (refine gPG_var (fun _ => ?_) (fun _ => ?_)))
      exact weak_fin (C := C) (s := 0) (n := 0) (l := []) (snap_ref (l := []) (g := false) (z := false) (t := 3) rfl) rfl (.inl (by omega)) h0 rfl
    · have hbl : b.length ≠ 0 := fun h => hb0 (List.eq_nil_of_length_eq_zero h)
      have hbm : (b.map iD).length = b.length * 1 := by simp
      repeat' (first | (simp (disch := first | omega | assumption | (refine @id ((_ : Bool) = _) ?_; exact id (by with_unfolding_all rfl)) | (exact Or.inl rfl) | (exact Or.inl trivial) | (exact okL_map _ (fun _ => rfl) _) | (simp only [List.length_map, List.length_set, List.length_replicate, List.length_cons, List.length_nil, List.length_append] <;> omega) | fail) only [VV0, VV1, VV2, VV3, VV4, VV5, VV6, VV7, mkFnV, vargs, slotsL, opdsA, not_true_eq_false, not_false_eq_true, decide_true, decide_false, Option.map_some, Option.bind_some, List.cons_append, List.nil_append, List.map_cons, List.map_nil, List.append_nil, Option.toList_some, Option.toList_none, Nat.reduceEqDiff, Nat.reduceLT, Nat.reduceAdd, Nat.reduceBEq, Int.reduceAdd, Int.reduceSub, Int.reduceLT, Int.reduceLE, Int.reduceEq, Int.reduceNeg, ↓reduceIte, if_true, if_false, Bool.false_eq_true, Bool.not_true, Bool.not_false, List.length_cons, List.length_nil, List.length_singleton, reduceCtorEq, Int.toNat_natCast, Nat.zero_add, Nat.add_zero, Nat.mul_one, Int.add_sub_cancel, eq_self, List.drop_zero, List.drop_succ_cons, Option.some.injEq, Prod.mk.injEq, Bool.and_true, Bool.true_and, Bool.and_self, true_or, List.set_cons_zero, List.set_cons_succ, scL, scD, expand, List.replicate, c16]) | (refine gC_drawW ?_) | (refine gI_dec (fun _ => ?_) (fun _ => ?_)) | (refine gG_dec (fun _ => ?_) (fun _ => ?_)) | (refine gPG_dec (fun _ => ?_) (fun _ => ?_)) | (refine gI_var (fun _ => ?_) (fun _ => ?_)) | (refine gG_var (fun _ => ?_) (fun _ => ?_)) | (refine gPG_var (fun _ => ?_) (fun _ => ?_)))
      refine callV_flat (hck _) ?_
      repeat' (first | (simp (disch := first | omega | assumption | (refine @id ((_ : Bool) = _) ?_; exact id (by with_unfolding_all rfl)) | (exact Or.inl rfl) | (exact Or.inl trivial) | (exact okL_map _ (fun _ => rfl) _) | (simp only [List.length_map, List.length_set, List.length_replicate, List.length_cons, List.length_nil, List.length_append] <;> omega) | fail) only [VV0, VV1, VV2, VV3, VV4, VV5, VV6, VV7, mkFnV, vargs, slotsL, opdsA, not_true_eq_false, not_false_eq_true, decide_true, decide_false, Option.map_some, Option.bind_some, List.cons_append, List.nil_append, List.map_cons, List.map_nil, List.append_nil, Option.toList_some, Option.toList_none, Nat.reduceEqDiff, Nat.reduceLT, Nat.reduceAdd, Nat.reduceBEq, Int.reduceAdd, Int.reduceSub, Int.reduceLT, Int.reduceLE, Int.reduceEq, Int.reduceNeg, ↓reduceIte, if_true, if_false, Bool.false_eq_true, Bool.not_true, Bool.not_false, List.length_cons, List.length_nil, List.length_singleton, reduceCtorEq, Int.toNat_natCast, Nat.zero_add, Nat.add_zero, Nat.mul_one, Int.add_sub_cancel, eq_self, List.drop_zero, List.drop_succ_cons, Option.some.injEq, Prod.mk.injEq, Bool.and_true, Bool.true_and, Bool.and_self, true_or, List.set_cons_zero, List.set_cons_succ, scL, scD, expand, List.replicate]) | (refine gC_drawW ?_) | (refine gI_dec (fun _ => ?_) (fun _ => ?_)) | (refine gG_dec (fun _ => ?_) (fun _ => ?_)) | (refine gPG_dec (fun _ => ?_) (fun _ => ?_)) | (refine gI_var (fun _ => ?_) (fun _ => ?_)) | (refine gG_var (fun _ => ?_) (fun _ => ?_)) | (refine gPG_var (fun _ => ?_) (fun _ => ?_)))
      have := fin (o := 1) (st := ⟨[(1, .gro 3 1 false (b.map iD)), (0, .row 3 1 false false [])], 2, 0⟩) rfl rfl
      rw [show ([] : List Int).length + b.length = b.length by simp] at this
      exact this
  · have hal : a.length ≠ 0 := fun h => ha0 (List.eq_nil_of_length_eq_zero h)
    have ham : (a.map iD).length = a.length * 1 := by simp
    have hbm : (b.map iD).length = b.length * 1 := by simp
    repeat' (first | (simp (disch := first | omega | assumption | (refine @id ((_ : Bool) = _) ?_; exact id (by with_unfolding_all rfl)) | (exact Or.inl rfl) | (exact Or.inl trivial) | (exact okL_map _ (fun _ => rfl) _) | (simp only [List.length_map, List.length_set, List.length_replicate, List.length_cons, List.length_nil, List.length_append] <;> omega) | fail) only [VV0, VV1, VV2, VV3, VV4, VV5, VV6, VV7, mkFnV, vargs, slotsL, opdsA, not_true_eq_false, not_false_eq_true, decide_true, decide_false, Option.map_some, Option.bind_some, List.cons_append, List.nil_append, List.map_cons, List.map_nil, List.append_nil, Option.toList_some, Option.toList_none, Nat.reduceEqDiff, Nat.reduceLT, Nat.reduceAdd, Nat.reduceBEq, Int.reduceAdd, Int.reduceSub, Int.reduceLT, Int.reduceLE, Int.reduceEq, Int.reduceNeg, ↓reduceIte, if_true, if_false, Bool.false_eq_true, Bool.not_true, Bool.not_false, List.length_cons, List.length_nil, List.length_singleton, reduceCtorEq, Int.toNat_natCast, Nat.zero_add, Nat.add_zero, Nat.mul_one, Int.add_sub_cancel, eq_self, List.drop_zero, List.drop_succ_cons, Option.some.injEq, Prod.mk.injEq, Bool.and_true, Bool.true_and, Bool.and_self, true_or, List.set_cons_zero, List.set_cons_succ, scL, scD, expand, List.replicate, c16]) | (refine gC_drawW ?_) | (refine gI_dec (fun _ => ?_) (fun _ => ?_)) | (refine gG_dec (fun _ => ?_) (fun _ => ?_)) | (refine gPG_dec (fun _ => ?_) (fun _ => ?_)) | (refine gI_var (fun _ => ?_) (fun _ => ?_)) | (refine gG_var (fun _ => ?_) (fun _ => ?_)) | (refine gPG_var (fun _ => ?_) (fun _ => ?_)))
    refine callV_flat (hck _) ?_
    repeat' (first | (simp (disch := first | omega | assumption | (refine @id ((_ : Bool) = _) ?_; exact id (by with_unfolding_all rfl)) | (exact Or.inl rfl) | (exact Or.inl trivial) | (exact okL_map _ (fun _ => rfl) _) | (simp only [List.length_map, List.length_set, List.length_replicate, List.length_cons, List.length_nil, List.length_append] <;> omega) | fail) only [VV0, VV1, VV2, VV3, VV4, VV5, VV6, VV7, mkFnV, vargs, slotsL, opdsA, not_true_eq_false, not_false_eq_true, decide_true, decide_false, Option.map_some, Option.bind_some, List.cons_append, List.nil_append, List.map_cons, List.map_nil, List.append_nil, Option.toList_some, Option.toList_none, Nat.reduceEqDiff, Nat.reduceLT, Nat.reduceAdd, Nat.reduceBEq, Int.reduceAdd, Int.reduceSub, Int.reduceLT, Int.reduceLE, Int.reduceEq, Int.reduceNeg, ↓reduceIte, if_true, if_false, Bool.false_eq_true, Bool.not_true, Bool.not_false, List.length_cons, List.length_nil, List.length_singleton, reduceCtorEq, Int.toNat_natCast, Nat.zero_add, Nat.add_zero, Nat.mul_one, Int.add_sub_cancel, eq_self, List.drop_zero, List.drop_succ_cons, Option.some.injEq, Prod.mk.injEq, Bool.and_true, Bool.true_and, Bool.and_self, true_or, List.set_cons_zero, List.set_cons_succ, scL, scD, expand, List.replicate]) | (refine gC_drawW ?_) | (refine gI_dec (fun _ => ?_) (fun _ => ?_)) | (refine gG_dec (fun _ => ?_) (fun _ => ?_)) | (refine gPG_dec (fun _ => ?_) (fun _ => ?_)) | (refine gI_var (fun _ => ?_) (fun _ => ?_)) | (refine gG_var (fun _ => ?_) (fun _ => ?_)) | (refine gPG_var (fun _ => ?_) (fun _ => ?_)))
    exact fin (o := 2) rfl rfl
theorem clone_p (s : Nat) (l : List Int) (hl : l.length ≤ 100000000000) (h0 : 0 < l.length) : VSpec (EN w (n + 1)) 30 [.sl s l.length (l.map iD)] (.gr 2 0 l.length) ⟨[(0, .gro 3 1 false (l.map iD))], 1, 0⟩ := by
  refine vspec_g rfl rfl (fun _ _ => rfl) (Nat.le_of_ble_eq_true rfl) (oldVals w) (retOK_gr (map_nil_iff rfl)) rfl fun C hC hn => ?_
  have hlm : (l.map iD).length = l.length * 1 := by simp
  have hne : l.length ≠ 0 := by omega
  have hnl : isNilV' 1 (.sl s l.length (l.map iD)) = some false := by
    have h3 : Nat.beq l.length 0 = false := nbf.2 hne
    simp only [isNilV', h3]
    cases Nat.beq s 0 <;> cases Nat.beq s 2 <;> rfl
  repeat' (first | (simp (disch := first | omega | assumption | (refine @id ((_ : Bool) = _) ?_; exact id (by with_unfolding_all rfl)) | (exact Or.inl rfl) | (exact Or.inl trivial) | (exact okL_map _ (fun _ => rfl) _) | (simp only [List.length_map, List.length_set, List.length_replicate, List.length_cons, List.length_nil, List.length_append] <;> omega) | fail) only [VV0, VV1, VV2, VV3, VV4, VV5, VV6, VV7, mkFnV, vargs, slotsL, opdsA, not_true_eq_false, not_false_eq_true, decide_true, decide_false, Option.map_some, Option.bind_some, List.cons_append, List.nil_append, List.map_cons, List.map_nil, List.append_nil, Option.toList_some, Option.toList_none, Nat.reduceEqDiff, Nat.reduceLT, Nat.reduceAdd, Nat.reduceBEq, Int.reduceAdd, Int.reduceSub, Int.reduceLT, Int.reduceLE, Int.reduceEq, Int.reduceNeg, ↓reduceIte, if_true, if_false, Bool.false_eq_true, Bool.not_true, Bool.not_false, List.length_cons, List.length_nil, List.length_singleton, reduceCtorEq, Int.toNat_natCast, Nat.zero_add, Nat.add_zero, Nat.mul_one, Int.add_sub_cancel, eq_self, List.drop_zero, List.drop_succ_cons, Option.some.injEq, Prod.mk.injEq, Bool.and_true, Bool.true_and, Bool.and_self, true_or, List.set_cons_zero, List.set_cons_succ, scL, scD, expand, List.replicate, c30, eqNilV_nil, hnl]) | (refine gC_drawW ?_) | (refine gI_dec (fun _ => ?_) (fun _ => ?_)) | (refine gG_dec (fun _ => ?_) (fun _ => ?_)) | (refine gPG_dec (fun _ => ?_) (fun _ => ?_)) | (refine gI_var (fun _ => ?_) (fun _ => ?_)) | (refine gG_var (fun _ => ?_) (fun _ => ?_)) | (refine gPG_var (fun _ => ?_) (fun _ => ?_)))
  exact weak_to [(1, 0)] 1 hn rfl rfl rfl rfl
theorem rreverse_p (s : Nat) (a : List Int) (ha : a.length ≤ 5000) : VSpec (EN w (n + 2)) 20 [.sl s a.length (a.map iD)] (finV (reverseF a)) ⟨[], 0, 0⟩ := by
  refine vspec_g rfl rfl (fun _ _ => rfl) (Nat.le_of_ble_eq_true rfl) (oldVals w) retOK_fin rfl fun C hC h0 => ?_
  have hck := fun st => (rcheck_p w n s a (by omega)).of hC rfl st rfl
  by_cases c1 : chk a ≠ 0
  · have e : reverseF a = ([], chk a) := if_pos c1
    rw [e]
    generalize chk a = x at c1 hck
    repeat' (first | (simp (disch := first | omega | assumption | (refine @id ((_ : Bool) = _) ?_; exact id (by with_unfolding_all rfl)) | (exact Or.inl rfl) | (exact Or.inl trivial) | (exact okL_map _ (fun _ => rfl) _) | (simp only [List.length_map, List.length_set, List.length_replicate, List.length_cons, List.length_nil, List.length_append] <;> omega) | fail) only [VV0, VV1, VV2, VV3, VV4, VV5, VV6, VV7, mkFnV, vargs, slotsL, opdsA, not_true_eq_false, not_false_eq_true, decide_true, decide_false, Option.map_some, Option.bind_some, List.cons_append, List.nil_append, List.map_cons, List.map_nil, List.append_nil, Option.toList_some, Option.toList_none, Nat.reduceEqDiff, Nat.reduceLT, Nat.reduceAdd, Nat.reduceBEq, Int.reduceAdd, Int.reduceSub, Int.reduceLT, Int.reduceLE, Int.reduceEq, Int.reduceNeg, ↓reduceIte, if_true, if_false, Bool.false_eq_true, Bool.not_true, Bool.not_false, List.length_cons, List.length_nil, List.length_singleton, reduceCtorEq, Int.toNat_natCast, Nat.zero_add, Nat.add_zero, Nat.mul_one, Int.add_sub_cancel, eq_self, List.drop_zero, List.drop_succ_cons, Option.some.injEq, Prod.mk.injEq, Bool.and_true, Bool.true_and, Bool.and_self, true_or, List.set_cons_zero, List.set_cons_succ, scL, scD, expand, List.replicate, c20]) | (refine gC_drawW ?_) | (refine gI_dec (fun _ => ?_) (fun _ => ?_)) | (refine gG_dec (fun _ => ?_) (fun _ => ?_)) | (refine gPG_dec (fun _ => ?_) (fun _ => ?_)) | (refine gI_var (fun _ => ?_) (fun _ => ?_)) | (refine gG_var (fun _ => ?_) (fun _ => ?_)) | (refine gPG_var (fun _ => ?_) (fun _ => ?_)))
    refine callV_flat (hck _) ?_
    repeat' (first | (simp (disch := first | omega | assumption | (refine @id ((_ : Bool) = _) ?_; exact id (by with_unfolding_all rfl)) | (exact Or.inl rfl) | (exact Or.inl trivial) | (exact okL_map _ (fun _ => rfl) _) | (simp only [List.length_map, List.length_set, List.length_replicate, List.length_cons, List.length_nil, List.length_append] <;> omega) | fail) only [VV0, VV1, VV2, VV3, VV4, VV5, VV6, VV7, mkFnV, vargs, slotsL, opdsA, not_true_eq_false, not_false_eq_true, decide_true, decide_false, Option.map_some, Option.bind_some, List.cons_append, List.nil_append, List.map_cons, List.map_nil, List.append_nil, Option.toList_some, Option.toList_none, Nat.reduceEqDiff, Nat.reduceLT, Nat.reduceAdd, Nat.reduceBEq, Int.reduceAdd, Int.reduceSub, Int.reduceLT, Int.reduceLE, Int.reduceEq, Int.reduceNeg, ↓reduceIte, if_true, if_false, Bool.false_eq_true, Bool.not_true, Bool.not_false, List.length_cons, List.length_nil, List.length_singleton, reduceCtorEq, Int.toNat_natCast, Nat.zero_add, Nat.add_zero, Nat.mul_one, Int.add_sub_cancel, eq_self, List.drop_zero, List.drop_succ_cons, Option.some.injEq, Prod.mk.injEq, Bool.and_true, Bool.true_and, Bool.and_self, true_or, List.set_cons_zero, List.set_cons_succ, scL, scD, expand, List.replicate]) | (refine gC_drawW ?_) | (refine gI_dec (fun _ => ?_) (fun _ => ?_)) | (refine gG_dec (fun _ => ?_) (fun _ => ?_)) | (refine gPG_dec (fun _ => ?_) (fun _ => ?_)) | (refine gI_var (fun _ => ?_) (fun _ => ?_)) | (refine gG_var (fun _ => ?_) (fun _ => ?_)) | (refine gPG_var (fun _ => ?_) (fun _ => ?_)))
    all_goals try contradiction
    refine callV_flat (hck _) ?_
    repeat' (first | (simp (disch := first | omega | assumption | (refine @id ((_ : Bool) = _) ?_; exact id (by with_unfolding_all rfl)) | (exact Or.inl rfl) | (exact Or.inl trivial) | (exact okL_map _ (fun _ => rfl) _) | (simp only [List.length_map, List.length_set, List.length_replicate, List.length_cons, List.length_nil, List.length_append] <;> omega) | fail) only [VV0, VV1, VV2, VV3, VV4, VV5, VV6, VV7, mkFnV, vargs, slotsL, opdsA, not_true_eq_false, not_false_eq_true, decide_true, decide_false, Option.map_some, Option.bind_some, List.cons_append, List.nil_append, List.map_cons, List.map_nil, List.append_nil, Option.toList_some, Option.toList_none, Nat.reduceEqDiff, Nat.reduceLT, Nat.reduceAdd, Nat.reduceBEq, Int.reduceAdd, Int.reduceSub, Int.reduceLT, Int.reduceLE, Int.reduceEq, Int.reduceNeg, ↓reduceIte, if_true, if_false, Bool.false_eq_true, Bool.not_true, Bool.not_false, List.length_cons, List.length_nil, List.length_singleton, reduceCtorEq, Int.toNat_natCast, Nat.zero_add, Nat.add_zero, Nat.mul_one, Int.add_sub_cancel, eq_self, List.drop_zero, List.drop_succ_cons, Option.some.injEq, Prod.mk.injEq, Bool.and_true, Bool.true_and, Bool.and_self, true_or, List.set_cons_zero, List.set_cons_succ, scL, scD, expand, List.replicate]) | (refine gC_drawW ?_) | (refine gI_dec (fun _ => ?_) (fun _ => ?_)) | (refine gG_dec (fun _ => ?_) (fun _ => ?_)) | (refine gPG_dec (fun _ => ?_) (fun _ => ?_)) | (refine gI_var (fun _ => ?_) (fun _ => ?_)) | (refine gG_var (fun _ => ?_) (fun _ => ?_)) | (refine gPG_var (fun _ => ?_) (fun _ => ?_)))
    exact weak_finNil h0 rfl
  have c1' : chk a = 0 := Classical.not_not.1 c1
  rw [c1'] at hck
  have e : reverseF a = (a.reverse, 0) := if_neg c1
  rw [e]
  repeat' (first | (simp (disch := first | omega | assumption | (refine @id ((_ : Bool) = _) ?_; exact id (by with_unfolding_all rfl)) | (exact Or.inl rfl) | (exact Or.inl trivial) | (exact okL_map _ (fun _ => rfl) _) | (simp only [List.length_map, List.length_set, List.length_replicate, List.length_cons, List.length_nil, List.length_append] <;> omega) | fail) only [VV0, VV1, VV2, VV3, VV4, VV5, VV6, VV7, mkFnV, vargs, slotsL, opdsA, not_true_eq_false, not_false_eq_true, decide_true, decide_false, Option.map_some, Option.bind_some, List.cons_append, List.nil_append, List.map_cons, List.map_nil, List.append_nil, Option.toList_some, Option.toList_none, Nat.reduceEqDiff, Nat.reduceLT, Nat.reduceAdd, Nat.reduceBEq, Int.reduceAdd, Int.reduceSub, Int.reduceLT, Int.reduceLE, Int.reduceEq, Int.reduceNeg, ↓reduceIte, if_true, if_false, Bool.false_eq_true, Bool.not_true, Bool.not_false, List.length_cons, List.length_nil, List.length_singleton, reduceCtorEq, Int.toNat_natCast, Nat.zero_add, Nat.add_zero, Nat.mul_one, Int.add_sub_cancel, eq_self, List.drop_zero, List.drop_succ_cons, Option.some.injEq, Prod.mk.injEq, Bool.and_true, Bool.true_and, Bool.and_self, true_or, List.set_cons_zero, List.set_cons_succ, scL, scD, expand, List.replicate, c20]) | (refine gC_drawW ?_) | (refine gI_dec (fun _ => ?_) (fun _ => ?_)) | (refine gG_dec (fun _ => ?_) (fun _ => ?_)) | (refine gPG_dec (fun _ => ?_) (fun _ => ?_)) | (refine gI_var (fun _ => ?_) (fun _ => ?_)) | (refine gG_var (fun _ => ?_) (fun _ => ?_)) | (refine gPG_var (fun _ => ?_) (fun _ => ?_)))
  refine callV_flat (hck _) ?_
  repeat' (first | (simp (disch := first | omega | assumption | (refine @id ((_ : Bool) = _) ?_; exact id (by with_unfolding_all rfl)) | (exact Or.inl rfl) | (exact Or.inl trivial) | (exact okL_map _ (fun _ => rfl) _) | (simp only [List.length_map, List.length_set, List.length_replicate, List.length_cons, List.length_nil, List.length_append] <;> omega) | fail) only [VV0, VV1, VV2, VV3, VV4, VV5, VV6, VV7, mkFnV, vargs, slotsL, opdsA, not_true_eq_false, not_false_eq_true, decide_true, decide_false, Option.map_some, Option.bind_some, List.cons_append, List.nil_append, List.map_cons, List.map_nil, List.append_nil, Option.toList_some, Option.toList_none, Nat.reduceEqDiff, Nat.reduceLT, Nat.reduceAdd, Nat.reduceBEq, Int.reduceAdd, Int.reduceSub, Int.reduceLT, Int.reduceLE, Int.reduceEq, Int.reduceNeg, ↓reduceIte, if_true, if_false, Bool.false_eq_true, Bool.not_true, Bool.not_false, List.length_cons, List.length_nil, List.length_singleton, reduceCtorEq, Int.toNat_natCast, Nat.zero_add, Nat.add_zero, Nat.mul_one, Int.add_sub_cancel, eq_self, List.drop_zero, List.drop_succ_cons, Option.some.injEq, Prod.mk.injEq, Bool.and_true, Bool.true_and, Bool.and_self, true_or, List.set_cons_zero, List.set_cons_succ, scL, scD, expand, List.replicate]) | (refine gC_drawW ?_) | (refine gI_dec (fun _ => ?_) (fun _ => ?_)) | (refine gG_dec (fun _ => ?_) (fun _ => ?_)) | (refine gPG_dec (fun _ => ?_) (fun _ => ?_)) | (refine gI_var (fun _ => ?_) (fun _ => ?_)) | (refine gG_var (fun _ => ?_) (fun _ => ?_)) | (refine gPG_var (fun _ => ?_) (fun _ => ?_)))
  refine g_while (fun m fr st => ∃ k : Nat, m = a.length - k ∧ k ≤ a.length ∧ fr = [(0, .sl s a.length (a.map iD)), (4, .gr 2 0 k), (5, .sc (.int .i64 ((a.length : Int) - 1 - k)))] ∧ st = ⟨[(0, .gro 3 1 false ((a.reverse.take k).map iD))], 1, 0⟩) a.length ?_ ⟨_, _, weak_nilSlot 4 3 1 rfl, 0, by omega, by omega, by simp [aput], by simp⟩ ?_
  · rw [hC, callP_rounds]; unfold many; omega
  · rintro m fr st ⟨k, rfl, hk, rfl, rfl⟩
    by_cases hlt : k < a.length
    · have hlk : ((a.reverse.take k).map iD).length = k * 1 := by simp; omega
      obtain ⟨j, hj⟩ : ∃ j : Nat, (a.length : Int) - 1 - k = j := ⟨a.length - 1 - k, by omega⟩
      have hst : a.reverse.take (k + 1) = a.reverse.take k ++ [a[j]!] := by
        rw [List.take_succ_eq_append_getElem (by simpa using hlt), List.getElem_reverse, getElem!_pos a j (by omega)]
        congr 2
        congr 1
        omega
      repeat' (first | (simp (disch := first | omega | assumption | (refine @id ((_ : Bool) = _) ?_; exact id (by with_unfolding_all rfl)) | (exact Or.inl rfl) | (exact Or.inl trivial) | (exact okL_map _ (fun _ => rfl) _) | (simp only [List.length_map, List.length_set, List.length_replicate, List.length_cons, List.length_nil, List.length_append] <;> omega) | fail) only [VV0, VV1, VV2, VV3, VV4, VV5, VV6, VV7, mkFnV, vargs, slotsL, opdsA, not_true_eq_false, not_false_eq_true, decide_true, decide_false, Option.map_some, Option.bind_some, List.cons_append, List.nil_append, List.map_cons, List.map_nil, List.append_nil, Option.toList_some, Option.toList_none, Nat.reduceEqDiff, Nat.reduceLT, Nat.reduceAdd, Nat.reduceBEq, Int.reduceAdd, Int.reduceSub, Int.reduceLT, Int.reduceLE, Int.reduceEq, Int.reduceNeg, ↓reduceIte, if_true, if_false, Bool.false_eq_true, Bool.not_true, Bool.not_false, List.length_cons, List.length_nil, List.length_singleton, reduceCtorEq, Int.toNat_natCast, Nat.zero_add, Nat.add_zero, Nat.mul_one, Int.add_sub_cancel, eq_self, List.drop_zero, List.drop_succ_cons, Option.some.injEq, Prod.mk.injEq, Bool.and_true, Bool.true_and, Bool.and_self, true_or, List.set_cons_zero, List.set_cons_succ, scL, scD, expand, List.replicate, c20l0, iD_dv, hj]) | (refine gC_drawW ?_) | (refine gI_dec (fun _ => ?_) (fun _ => ?_)) | (refine gG_dec (fun _ => ?_) (fun _ => ?_)) | (refine gPG_dec (fun _ => ?_) (fun _ => ?_)) | (refine gI_var (fun _ => ?_) (fun _ => ?_)) | (refine gG_var (fun _ => ?_) (fun _ => ?_)) | (refine gPG_var (fun _ => ?_) (fun _ => ?_)))
      refine ⟨_, _, _, by omega, weak_to [(2, 0)] 1 h0 rfl rfl rfl rfl, k + 1, rfl, hlt, ?_, ?_⟩
      · simp [renF, vren, aget_cons]
        omega
      · rw [hst, List.map_append]
        simp [renH, aget_cons, renO, iD]
    · have : k = a.length := by omega
      subst this
      repeat' (first | (simp (disch := first | omega | assumption | (refine @id ((_ : Bool) = _) ?_; exact id (by with_unfolding_all rfl)) | (exact Or.inl rfl) | (exact Or.inl trivial) | (exact okL_map _ (fun _ => rfl) _) | (simp only [List.length_map, List.length_set, List.length_replicate, List.length_cons, List.length_nil, List.length_append] <;> omega) | fail) only [VV0, VV1, VV2, VV3, VV4, VV5, VV6, VV7, mkFnV, vargs, slotsL, opdsA, not_true_eq_false, not_false_eq_true, decide_true, decide_false, Option.map_some, Option.bind_some, List.cons_append, List.nil_append, List.map_cons, List.map_nil, List.append_nil, Option.toList_some, Option.toList_none, Nat.reduceEqDiff, Nat.reduceLT, Nat.reduceAdd, Nat.reduceBEq, Int.reduceAdd, Int.reduceSub, Int.reduceLT, Int.reduceLE, Int.reduceEq, Int.reduceNeg, ↓reduceIte, if_true, if_false, Bool.false_eq_true, Bool.not_true, Bool.not_false, List.length_cons, List.length_nil, List.length_singleton, reduceCtorEq, Int.toNat_natCast, Nat.zero_add, Nat.add_zero, Nat.mul_one, Int.add_sub_cancel, eq_self, List.drop_zero, List.drop_succ_cons, Option.some.injEq, Prod.mk.injEq, Bool.and_true, Bool.true_and, Bool.and_self, true_or, List.set_cons_zero, List.set_cons_succ, scL, scD, expand, List.replicate, c20l0]) | (refine gC_drawW ?_) | (refine gI_dec (fun _ => ?_) (fun _ => ?_)) | (refine gG_dec (fun _ => ?_) (fun _ => ?_)) | (refine gPG_dec (fun _ => ?_) (fun _ => ?_)) | (refine gI_var (fun _ => ?_) (fun _ => ?_)) | (refine gG_var (fun _ => ?_) (fun _ => ?_)) | (refine gPG_var (fun _ => ?_) (fun _ => ?_)))
      have hl : (a.reverse.take a.length) = a.reverse := List.take_of_length_le (by simp)
      rw [hl]
      have := weak_finG (C := C) (t := 3) (o := 0) (z := false) (l := a.reverse) (x := .int .i64 0) (st := ⟨[(0, .gro 3 1 false (a.reverse.map iD))], 1, 0⟩) rfl rfl h0 rfl
      rw [List.length_reverse] at this
      simp only [finV, List.length_reverse]
      exact this
end
end Go.Proofs.Ytkjkiodoighgnaa
