/- What is proved: the law PegTwo returns true for every input. Conditions: none beyond the card's own.
   Texts: C18DA, R18D, H18D, P18Da.
-/
import Derived.Test.YtepdkmdcainddaaDoorPart3
import Derived.Test.YtepdkmdcainddaaDoorProg
import Derived.KernelRfl
import Derived.Test.YtepdkmdcainddaaDoorCards
import Derived.Test.YtepdkmdcainddaaDoorTie
import Derived.SizedLaws
import Derived.ChangeAt
import Derived.SevenTiedAt
import Derived.Stop.Joined
import Derived.Lay
/- The seat's functions as the interpreter runs them: written by a program out of the loaded form, and shown equal to it below. -/
namespace Go.Proofs.YtepdkmdcainddaaDoor
open Go Go.Itp
set_option maxRecDepth 100000
/- raddle/raddlelaw18.PegLifts -/
def c3 : AFun := ⟨
  .seq (.ops [⟨(some 1), none, .box 24 (.tmp 0)⟩,
      ⟨(some 2), none, .mov (.const (.bool false))⟩] [1])
  (.seq (.seq (.ops [⟨(some 12), none, .load (some 3) (.tmp 1)⟩,
      ⟨(some 13), none, .callF 9 [(.tmp 12)]⟩] [1, 13])
  (.cond (.tmp 13)
    (.seq (.ops [⟨(some 2), none, .mov (.const (.bool true))⟩] [2])
    (.ret))
    (.skip)))
  (.seq (.ops [⟨(some 14), none, .load (some 3) (.tmp 1)⟩,
      ⟨(some 15), none, .callF 10 [(.tmp 14)]⟩,
      ⟨(some 3), none, .alloc 24 [(2, (.int .i64 0)), (1, (.slice none 0 0))]⟩,
      ⟨none, none, .store 3 (.tmp 3) (.tmp 15)⟩] [1, 3])
  (.seq (.ops [⟨(some 17), none, .load (some 3) (.tmp 3)⟩,
      ⟨(some 18), none, .callF 11 [(.tmp 17)]⟩,
      ⟨(some 16), none, .mov (.tmp 18)⟩,
      ⟨(some 19), none, .ext (.tmp 16) 0⟩,
      ⟨(some 20), none, .ext (.tmp 16) 1⟩,
      ⟨(some 4), none, .mov (.tmp 19)⟩,
      ⟨(some 5), none, .mov (.tmp 20)⟩] [1, 3, 4, 5])
  (.seq (.ops [⟨(some 22), none, .load (some 3) (.tmp 1)⟩,
      ⟨(some 23), none, .callF 12 [(.tmp 22)]⟩,
      ⟨(some 21), none, .mov (.tmp 23)⟩,
      ⟨(some 24), none, .ext (.tmp 21) 0⟩,
      ⟨(some 25), none, .ext (.tmp 21) 1⟩,
      ⟨(some 6), none, .mov (.tmp 24)⟩,
      ⟨(some 7), none, .mov (.tmp 25)⟩] [1, 3, 4, 5, 6, 7])
  (.seq (.ops [⟨(some 27), none, .load (some 3) (.tmp 3)⟩,
      ⟨(some 28), none, .callF 13 [(.tmp 27)]⟩,
      ⟨(some 26), none, .mov (.tmp 28)⟩,
      ⟨(some 29), none, .ext (.tmp 26) 0⟩,
      ⟨(some 30), none, .ext (.tmp 26) 1⟩,
      ⟨(some 8), none, .alloc 34 [(1, (.int .i64 0)), (1, (.slice none 0 0))]⟩,
      ⟨none, none, .store 2 (.tmp 8) (.tmp 29)⟩,
      ⟨(some 9), none, .mov (.tmp 30)⟩] [1, 3, 4, 5, 6, 7, 8, 9])
  (.seq (.ops [⟨(some 32), none, .load (some 3) (.tmp 1)⟩,
      ⟨(some 33), none, .callF 14 [(.tmp 32)]⟩,
      ⟨(some 31), none, .mov (.tmp 33)⟩,
      ⟨(some 34), none, .ext (.tmp 31) 0⟩,
      ⟨(some 35), none, .ext (.tmp 31) 1⟩,
      ⟨(some 10), none, .alloc 34 [(1, (.int .i64 0)), (1, (.slice none 0 0))]⟩,
      ⟨none, none, .store 2 (.tmp 10) (.tmp 34)⟩,
      ⟨(some 11), none, .mov (.tmp 35)⟩] [1, 3, 4, 5, 6, 7, 8, 9, 10, 11])
  (.seq (.draw [⟨(some 36), none, .load (some 3) (.tmp 3)⟩,
      ⟨(some 37), none, .callF 15 [(.tmp 36)]⟩,
      ⟨(some 38), none, .load (some 3) (.tmp 1)⟩,
      ⟨(some 39), none, .callF 16 [(.tmp 38)]⟩,
      ⟨(some 40), none, .bin .eql (.tmp 37) (.tmp 39)⟩,
      ⟨(some 41), none, .mov (.tmp 40)⟩,
      ⟨(some 42), (some (41, true)), .mov (.tmp 4)⟩,
      ⟨(some 43), (some (41, true)), .mov (.tmp 6)⟩,
      ⟨(some 44), (some (41, true)), .bin .eql (.tmp 42) (.tmp 43)⟩,
      ⟨(some 45), none, .pick (.tmp 41) (.tmp 44) (.const (.bool false))⟩,
      ⟨(some 46), none, .mov (.tmp 45)⟩,
      ⟨(some 47), (some (46, true)), .mov (.tmp 5)⟩,
      ⟨(some 48), (some (46, true)), .mov (.tmp 7)⟩,
      ⟨(some 49), (some (46, true)), .bin .eql (.tmp 47) (.tmp 48)⟩,
      ⟨(some 50), none, .pick (.tmp 46) (.tmp 49) (.const (.bool false))⟩,
      ⟨(some 51), none, .mov (.tmp 50)⟩,
      ⟨(some 52), (some (51, true)), .load (some 2) (.tmp 8)⟩,
      ⟨(some 53), (some (51, true)), .load (some 2) (.tmp 10)⟩,
      ⟨(some 54), (some (51, true)), .callF 17 [(.tmp 52), (.tmp 53)]⟩,
      ⟨(some 55), none, .pick (.tmp 51) (.tmp 54) (.const (.bool false))⟩,
      ⟨(some 56), none, .mov (.tmp 55)⟩,
      ⟨(some 57), (some (56, true)), .mov (.tmp 9)⟩,
      ⟨(some 58), (some (56, true)), .mov (.tmp 11)⟩,
      ⟨(some 59), (some (56, true)), .bin .eql (.tmp 57) (.tmp 58)⟩,
      ⟨(some 60), none, .pick (.tmp 56) (.tmp 59) (.const (.bool false))⟩,
      ⟨(some 61), none, .mov (.tmp 60)⟩,
      ⟨(some 62), (some (61, true)), .load (some 3) (.tmp 3)⟩,
      ⟨(some 63), (some (61, true)), .load (some 3) (.tmp 1)⟩] [⟨(some 64), (some (61, true)), .callF 18 [(.tmp 62), (.tmp 63)]⟩,
      ⟨(some 65), none, .pick (.tmp 61) (.tmp 64) (.const (.bool false))⟩,
      ⟨(some 2), none, .mov (.tmp 65)⟩] [[], [], [false, false], [], [], [], [], [], [], [], [], [], [], [], [], [], [], [], [], [], [], [], [], [], [], [], [], []] [2])
  (.ret)))))))),
  66, [(2, none)], true⟩
theorem ok3 : FunOK Tryd.prog 3 c3 := ⟨⟨Tryd.f3, _, c3.code, Tryd.func3, rfl, by kernel_rfl, rfl, by kernel_rfl, by kernel_rfl⟩⟩
/- raddle/raddlelaw18.PegOne -/
def c4 : AFun := ⟨
  .seq (.ops [⟨(some 3), none, .box 24 (.tmp 0)⟩,
      ⟨(some 6), none, .mov (.const (.bool false))⟩] [1, 2, 3])
  (.seq (.ops [⟨(some 21), none, .callF 19 []⟩,
      ⟨(some 7), none, .mov (.tmp 21)⟩] [1, 2, 3, 7])
  (.seq (.seq (.ops [⟨(some 22), none, .load (some 3) (.tmp 3)⟩,
      ⟨(some 23), none, .callF 20 [(.tmp 22)]⟩,
      ⟨(some 24), none, .un .not (.tmp 23)⟩,
      ⟨(some 25), none, .mov (.tmp 24)⟩,
      ⟨(some 26), (some (25, false)), .mov (.tmp 1)⟩,
      ⟨(some 27), (some (25, false)), .bin .lss (.tmp 26) (.const (.int .i64 0))⟩,
      ⟨(some 28), none, .pick (.tmp 25) (.const (.bool true)) (.tmp 27)⟩,
      ⟨(some 29), none, .mov (.tmp 28)⟩,
      ⟨(some 30), (some (29, false)), .mov (.tmp 1)⟩,
      ⟨(some 31), (some (29, false)), .fldA 0 (.tmp 3)⟩,
      ⟨(some 32), (some (29, false)), .load none (.tmp 31)⟩,
      ⟨(some 33), (some (29, false)), .bin .gtr (.tmp 30) (.tmp 32)⟩,
      ⟨(some 34), none, .pick (.tmp 29) (.const (.bool true)) (.tmp 33)⟩,
      ⟨(some 35), none, .mov (.tmp 34)⟩,
      ⟨(some 36), (some (35, false)), .mov (.tmp 2)⟩,
      ⟨(some 37), (some (35, false)), .bin .lss (.tmp 36) (.const (.int .i64 0))⟩,
      ⟨(some 38), none, .pick (.tmp 35) (.const (.bool true)) (.tmp 37)⟩,
      ⟨(some 39), none, .mov (.tmp 38)⟩,
      ⟨(some 40), (some (39, false)), .mov (.tmp 2)⟩,
      ⟨(some 41), (some (39, false)), .fldA 1 (.tmp 3)⟩,
      ⟨(some 42), (some (39, false)), .load none (.tmp 41)⟩,
      ⟨(some 43), (some (39, false)), .bin .gtr (.tmp 40) (.tmp 42)⟩,
      ⟨(some 44), none, .pick (.tmp 39) (.const (.bool true)) (.tmp 43)⟩,
      ⟨(some 45), none, .mov (.tmp 44)⟩,
      ⟨(some 46), (some (45, false)), .mov (.tmp 7)⟩,
      ⟨(some 47), (some (45, false)), .un .not (.tmp 46)⟩,
      ⟨(some 48), none, .pick (.tmp 45) (.const (.bool true)) (.tmp 47)⟩] [1, 2, 3, 7, 48])
  (.cond (.tmp 48)
    (.seq (.ops [⟨(some 49), none, .mov (.tmp 7)⟩,
        ⟨(some 6), none, .mov (.tmp 49)⟩] [6])
    (.ret))
    (.skip)))
  (.seq (.ops [⟨(some 51), none, .load (some 3) (.tmp 3)⟩,
      ⟨(some 52), none, .callF 13 [(.tmp 51)]⟩,
      ⟨(some 50), none, .mov (.tmp 52)⟩,
      ⟨(some 53), none, .ext (.tmp 50) 0⟩,
      ⟨(some 54), none, .ext (.tmp 50) 1⟩,
      ⟨(some 8), none, .alloc 34 [(1, (.int .i64 0)), (1, (.slice none 0 0))]⟩,
      ⟨none, none, .store 2 (.tmp 8) (.tmp 53)⟩,
      ⟨(some 9), none, .mov (.tmp 54)⟩] [1, 2, 3, 7, 8, 9])
  (.seq (.seq (.ops [⟨(some 55), none, .mov (.tmp 9)⟩,
      ⟨(some 56), none, .bin .neq (.tmp 55) (.const (.int .i64 0))⟩,
      ⟨(some 57), none, .mov (.tmp 56)⟩,
      ⟨(some 58), (some (57, false)), .load (some 2) (.tmp 8)⟩,
      ⟨(some 59), (some (57, false)), .callF 21 [(.tmp 58)]⟩,
      ⟨(some 60), (some (57, false)), .bin .neq (.tmp 59) (.const (.int .i64 0))⟩,
      ⟨(some 61), none, .pick (.tmp 57) (.const (.bool true)) (.tmp 60)⟩,
      ⟨(some 62), none, .mov (.tmp 61)⟩,
      ⟨(some 63), (some (62, false)), .fldA 0 (.tmp 8)⟩,
      ⟨(some 64), (some (62, false)), .load none (.tmp 63)⟩,
      ⟨(some 65), (some (62, false)), .fldA 0 (.tmp 3)⟩,
      ⟨(some 66), (some (62, false)), .load none (.tmp 65)⟩,
      ⟨(some 67), (some (62, false)), .bin .neq (.tmp 64) (.tmp 66)⟩,
      ⟨(some 68), none, .pick (.tmp 62) (.const (.bool true)) (.tmp 67)⟩,
      ⟨(some 69), none, .mov (.tmp 68)⟩,
      ⟨(some 70), (some (69, false)), .fldA 1 (.tmp 8)⟩,
      ⟨(some 71), (some (69, false)), .load none (.tmp 70)⟩,
      ⟨(some 72), (some (69, false)), .len false (.tmp 71)⟩,
      ⟨(some 73), (some (69, false)), .fldA 1 (.tmp 3)⟩,
      ⟨(some 74), (some (69, false)), .load none (.tmp 73)⟩,
      ⟨(some 75), (some (69, false)), .bin .add (.tmp 74) (.const (.int .i64 1))⟩,
      ⟨(some 76), (some (69, false)), .bin .neq (.tmp 72) (.tmp 75)⟩,
      ⟨(some 77), none, .pick (.tmp 69) (.const (.bool true)) (.tmp 76)⟩] [1, 2, 7, 8, 77])
  (.cond (.tmp 77)
    (.seq (.ops [⟨(some 6), none, .mov (.const (.bool false))⟩] [6])
    (.ret))
    (.skip)))
  (.seq (.ops [⟨(some 78), none, .load (some 2) (.tmp 8)⟩,
      ⟨(some 79), none, .callF 22 [(.tmp 78)]⟩,
      ⟨(some 10), none, .alloc 34 [(1, (.int .i64 0)), (1, (.slice none 0 0))]⟩,
      ⟨none, none, .store 2 (.tmp 10) (.tmp 79)⟩] [1, 2, 7, 8, 10])
  (.seq (.draw [⟨(some 80), none, .fldA 1 (.tmp 10)⟩,
      ⟨(some 81), none, .load none (.tmp 80)⟩,
      ⟨(some 82), none, .mov (.tmp 2)⟩,
      ⟨(some 83), none, .idxS 1 (.tmp 81) (.tmp 82)⟩,
      ⟨(some 84), none, .load none (.tmp 83)⟩,
      ⟨(some 85), none, .mov (.tmp 1)⟩,
      ⟨(some 86), none, .fldA 1 (.tmp 10)⟩,
      ⟨(some 87), none, .load none (.tmp 86)⟩,
      ⟨(some 88), none, .mov (.tmp 2)⟩,
      ⟨(some 89), none, .idxS 1 (.tmp 87) (.tmp 88)⟩,
      ⟨(some 90), none, .load none (.tmp 89)⟩,
      ⟨(some 91), none, .mov (.tmp 1)⟩,
      ⟨(some 92), none, .idxS 1 (.tmp 90) (.tmp 91)⟩,
      ⟨(some 93), none, .load none (.tmp 92)⟩,
      ⟨(some 94), none, .un .not (.tmp 93)⟩] [⟨(some 95), none, .idxS 1 (.tmp 84) (.tmp 85)⟩,
      ⟨none, none, .store 1 (.tmp 95) (.tmp 94)⟩] [[], [], [], [], [], [], [], [], [], [], [], [], [], [], []] [1, 2, 7, 8, 10])
  (.seq (.ops [⟨(some 97), none, .load (some 2) (.tmp 10)⟩,
      ⟨(some 98), none, .callF 23 [(.tmp 97)]⟩,
      ⟨(some 96), none, .mov (.tmp 98)⟩,
      ⟨(some 99), none, .ext (.tmp 96) 0⟩,
      ⟨(some 100), none, .ext (.tmp 96) 1⟩,
      ⟨(some 101), none, .ext (.tmp 96) 2⟩,
      ⟨(some 102), none, .ext (.tmp 96) 3⟩,
      ⟨(some 11), none, .alloc 34 [(1, (.int .i64 0)), (1, (.slice none 0 0))]⟩,
      ⟨(some 12), none, .alloc 47 [(2, (.int .i64 0))]⟩,
      ⟨none, none, .store 2 (.tmp 11) (.tmp 99)⟩,
      ⟨none, none, .store 2 (.tmp 12) (.tmp 100)⟩,
      ⟨(some 13), none, .mov (.tmp 101)⟩,
      ⟨(some 14), none, .mov (.tmp 102)⟩] [1, 2, 7, 8, 10, 11, 12, 13, 14])
  (.seq (.ops [⟨(some 104), none, .load (some 2) (.tmp 10)⟩,
      ⟨(some 105), none, .callF 24 [(.tmp 104)]⟩,
      ⟨(some 103), none, .mov (.tmp 105)⟩,
      ⟨(some 106), none, .ext (.tmp 103) 0⟩,
      ⟨(some 107), none, .ext (.tmp 103) 1⟩,
      ⟨(some 15), none, .alloc 24 [(2, (.int .i64 0)), (1, (.slice none 0 0))]⟩,
      ⟨none, none, .store 3 (.tmp 15) (.tmp 106)⟩,
      ⟨(some 16), none, .mov (.tmp 107)⟩] [1, 2, 7, 8, 11, 12, 13, 14, 16])
  (.seq (.ops [⟨(some 109), none, .load (some 2) (.tmp 8)⟩,
      ⟨(some 110), none, .callF 23 [(.tmp 109)]⟩,
      ⟨(some 108), none, .mov (.tmp 110)⟩,
      ⟨(some 111), none, .ext (.tmp 108) 0⟩,
      ⟨(some 112), none, .ext (.tmp 108) 1⟩,
      ⟨(some 113), none, .ext (.tmp 108) 2⟩,
      ⟨(some 114), none, .ext (.tmp 108) 3⟩,
      ⟨(some 17), none, .alloc 34 [(1, (.int .i64 0)), (1, (.slice none 0 0))]⟩,
      ⟨(some 18), none, .alloc 47 [(2, (.int .i64 0))]⟩,
      ⟨none, none, .store 2 (.tmp 17) (.tmp 111)⟩,
      ⟨none, none, .store 2 (.tmp 18) (.tmp 112)⟩,
      ⟨(some 19), none, .mov (.tmp 113)⟩,
      ⟨(some 20), none, .mov (.tmp 114)⟩] [1, 2, 7, 8, 11, 12, 13, 14, 16, 17, 18, 19, 20])
  (.seq (.ops [⟨(some 115), none, .mov (.tmp 7)⟩,
      ⟨(some 116), none, .mov (.tmp 115)⟩,
      ⟨(some 117), (some (116, true)), .mov (.tmp 14)⟩,
      ⟨(some 118), (some (116, true)), .bin .eql (.tmp 117) (.const (.int .i64 0))⟩,
      ⟨(some 119), none, .pick (.tmp 116) (.tmp 118) (.const (.bool false))⟩,
      ⟨(some 120), none, .mov (.tmp 119)⟩,
      ⟨(some 121), (some (120, true)), .mov (.tmp 13)⟩,
      ⟨(some 122), none, .pick (.tmp 120) (.tmp 121) (.const (.bool false))⟩,
      ⟨(some 123), none, .mov (.tmp 122)⟩,
      ⟨(some 124), (some (123, true)), .load (some 2) (.tmp 12)⟩,
      ⟨(some 125), (some (123, true)), .mov (.tmp 1)⟩,
      ⟨(some 126), (some (123, true)), .mov (.tmp 2)⟩,
      ⟨(some 127), (some (123, true)), .build [(.int .i64 0), (.int .i64 0)] [(0, 1, (.tmp 125)), (1, 1, (.tmp 126))]⟩,
      ⟨(some 128), (some (123, true)), .eqAgg false [(0, 0), (1, 0)] (.tmp 124) (.tmp 127)⟩,
      ⟨(some 129), none, .pick (.tmp 123) (.tmp 128) (.const (.bool false))⟩,
      ⟨(some 130), none, .mov (.tmp 129)⟩,
      ⟨(some 131), (some (130, true)), .load (some 2) (.tmp 11)⟩,
      ⟨(some 132), (some (130, true)), .load (some 2) (.tmp 8)⟩,
      ⟨(some 133), (some (130, true)), .callF 17 [(.tmp 131), (.tmp 132)]⟩,
      ⟨(some 134), none, .pick (.tmp 130) (.tmp 133) (.const (.bool false))⟩,
      ⟨(some 135), none, .mov (.tmp 134)⟩,
      ⟨(some 136), (some (135, true)), .mov (.tmp 16)⟩,
      ⟨(some 137), (some (135, true)), .bin .eql (.tmp 136) (.const (.int .i64 30))⟩,
      ⟨(some 138), none, .pick (.tmp 135) (.tmp 137) (.const (.bool false))⟩,
      ⟨(some 139), none, .mov (.tmp 138)⟩,
      ⟨(some 140), (some (139, true)), .mov (.tmp 20)⟩,
      ⟨(some 141), (some (139, true)), .bin .eql (.tmp 140) (.const (.int .i64 0))⟩,
      ⟨(some 142), none, .pick (.tmp 139) (.tmp 141) (.const (.bool false))⟩,
      ⟨(some 143), none, .mov (.tmp 142)⟩,
      ⟨(some 144), (some (143, true)), .mov (.tmp 19)⟩,
      ⟨(some 145), (some (143, true)), .un .not (.tmp 144)⟩,
      ⟨(some 146), none, .pick (.tmp 143) (.tmp 145) (.const (.bool false))⟩,
      ⟨(some 147), none, .mov (.tmp 146)⟩,
      ⟨(some 148), (some (147, true)), .load (some 2) (.tmp 18)⟩,
      ⟨(some 149), (some (147, true)), .build [(.int .i64 0), (.int .i64 0)] []⟩,
      ⟨(some 150), (some (147, true)), .eqAgg false [(0, 0), (1, 0)] (.tmp 148) (.tmp 149)⟩,
      ⟨(some 151), none, .pick (.tmp 147) (.tmp 150) (.const (.bool false))⟩,
      ⟨(some 152), none, .mov (.tmp 151)⟩,
      ⟨(some 153), (some (152, true)), .load (some 2) (.tmp 17)⟩,
      ⟨(some 154), (some (152, true)), .load (some 2) (.tmp 8)⟩,
      ⟨(some 155), (some (152, true)), .callF 17 [(.tmp 153), (.tmp 154)]⟩,
      ⟨(some 156), none, .pick (.tmp 152) (.tmp 155) (.const (.bool false))⟩,
      ⟨(some 6), none, .mov (.tmp 156)⟩] [6])
  (.ret))))))))))),
  157, [(6, none)], true⟩
theorem ok4 : FunOK Tryd.prog 4 c4 := ⟨⟨Tryd.f4, _, c4.code, Tryd.func4, rfl, by kernel_rfl, rfl, by kernel_rfl, by kernel_rfl⟩⟩
/- raddle/raddlelaw18.PegTwo -/
def c5 : AFun := ⟨
  .seq (.ops [⟨(some 5), none, .box 24 (.tmp 0)⟩,
      ⟨(some 10), none, .mov (.const (.bool false))⟩] [1, 2, 3, 4, 5])
  (.seq (.ops [⟨(some 21), none, .callF 19 []⟩,
      ⟨(some 11), none, .mov (.tmp 21)⟩] [1, 2, 3, 4, 5, 11])
  (.seq (.seq (.ops [⟨(some 22), none, .load (some 3) (.tmp 5)⟩,
      ⟨(some 23), none, .callF 20 [(.tmp 22)]⟩,
      ⟨(some 24), none, .un .not (.tmp 23)⟩,
      ⟨(some 25), none, .mov (.tmp 24)⟩,
      ⟨(some 26), (some (25, false)), .mov (.tmp 1)⟩,
      ⟨(some 27), (some (25, false)), .bin .lss (.tmp 26) (.const (.int .i64 0))⟩,
      ⟨(some 28), none, .pick (.tmp 25) (.const (.bool true)) (.tmp 27)⟩,
      ⟨(some 29), none, .mov (.tmp 28)⟩,
      ⟨(some 30), (some (29, false)), .mov (.tmp 1)⟩,
      ⟨(some 31), (some (29, false)), .fldA 0 (.tmp 5)⟩,
      ⟨(some 32), (some (29, false)), .load none (.tmp 31)⟩,
      ⟨(some 33), (some (29, false)), .bin .gtr (.tmp 30) (.tmp 32)⟩,
      ⟨(some 34), none, .pick (.tmp 29) (.const (.bool true)) (.tmp 33)⟩,
      ⟨(some 35), none, .mov (.tmp 34)⟩,
      ⟨(some 36), (some (35, false)), .mov (.tmp 2)⟩,
      ⟨(some 37), (some (35, false)), .bin .lss (.tmp 36) (.const (.int .i64 0))⟩,
      ⟨(some 38), none, .pick (.tmp 35) (.const (.bool true)) (.tmp 37)⟩,
      ⟨(some 39), none, .mov (.tmp 38)⟩,
      ⟨(some 40), (some (39, false)), .mov (.tmp 2)⟩,
      ⟨(some 41), (some (39, false)), .fldA 1 (.tmp 5)⟩,
      ⟨(some 42), (some (39, false)), .load none (.tmp 41)⟩,
      ⟨(some 43), (some (39, false)), .bin .gtr (.tmp 40) (.tmp 42)⟩,
      ⟨(some 44), none, .pick (.tmp 39) (.const (.bool true)) (.tmp 43)⟩,
      ⟨(some 45), none, .mov (.tmp 44)⟩,
      ⟨(some 46), (some (45, false)), .mov (.tmp 3)⟩,
      ⟨(some 47), (some (45, false)), .bin .lss (.tmp 46) (.const (.int .i64 0))⟩,
      ⟨(some 48), none, .pick (.tmp 45) (.const (.bool true)) (.tmp 47)⟩,
      ⟨(some 49), none, .mov (.tmp 48)⟩,
      ⟨(some 50), (some (49, false)), .mov (.tmp 3)⟩,
      ⟨(some 51), (some (49, false)), .fldA 0 (.tmp 5)⟩,
      ⟨(some 52), (some (49, false)), .load none (.tmp 51)⟩,
      ⟨(some 53), (some (49, false)), .bin .gtr (.tmp 50) (.tmp 52)⟩,
      ⟨(some 54), none, .pick (.tmp 49) (.const (.bool true)) (.tmp 53)⟩,
      ⟨(some 55), none, .mov (.tmp 54)⟩,
      ⟨(some 56), (some (55, false)), .mov (.tmp 4)⟩,
      ⟨(some 57), (some (55, false)), .bin .lss (.tmp 56) (.const (.int .i64 0))⟩,
      ⟨(some 58), none, .pick (.tmp 55) (.const (.bool true)) (.tmp 57)⟩,
      ⟨(some 59), none, .mov (.tmp 58)⟩,
      ⟨(some 60), (some (59, false)), .mov (.tmp 4)⟩,
      ⟨(some 61), (some (59, false)), .fldA 1 (.tmp 5)⟩,
      ⟨(some 62), (some (59, false)), .load none (.tmp 61)⟩,
      ⟨(some 63), (some (59, false)), .bin .gtr (.tmp 60) (.tmp 62)⟩,
      ⟨(some 64), none, .pick (.tmp 59) (.const (.bool true)) (.tmp 63)⟩,
      ⟨(some 65), none, .mov (.tmp 64)⟩,
      ⟨(some 66), (some (65, false)), .mov (.tmp 1)⟩,
      ⟨(some 67), (some (65, false)), .mov (.tmp 3)⟩,
      ⟨(some 68), (some (65, false)), .bin .eql (.tmp 66) (.tmp 67)⟩,
      ⟨(some 69), (some (65, false)), .mov (.tmp 68)⟩,
      ⟨(some 70), (some (69, true)), .mov (.tmp 2)⟩,
      ⟨(some 71), (some (69, true)), .mov (.tmp 4)⟩,
      ⟨(some 72), (some (69, true)), .bin .eql (.tmp 70) (.tmp 71)⟩,
      ⟨(some 73), (some (65, false)), .pick (.tmp 69) (.tmp 72) (.const (.bool false))⟩,
      ⟨(some 74), none, .pick (.tmp 65) (.const (.bool true)) (.tmp 73)⟩,
      ⟨(some 75), none, .mov (.tmp 74)⟩,
      ⟨(some 76), (some (75, false)), .mov (.tmp 11)⟩,
      ⟨(some 77), (some (75, false)), .un .not (.tmp 76)⟩,
      ⟨(some 78), none, .pick (.tmp 75) (.const (.bool true)) (.tmp 77)⟩] [1, 2, 3, 4, 5, 11, 78])
  (.cond (.tmp 78)
    (.seq (.ops [⟨(some 79), none, .mov (.tmp 11)⟩,
        ⟨(some 10), none, .mov (.tmp 79)⟩] [10])
    (.ret))
    (.skip)))
  (.seq (.ops [⟨(some 81), none, .load (some 3) (.tmp 5)⟩,
      ⟨(some 82), none, .callF 13 [(.tmp 81)]⟩,
      ⟨(some 80), none, .mov (.tmp 82)⟩,
      ⟨(some 83), none, .ext (.tmp 80) 0⟩,
      ⟨(some 84), none, .ext (.tmp 80) 1⟩,
      ⟨(some 12), none, .alloc 34 [(1, (.int .i64 0)), (1, (.slice none 0 0))]⟩,
      ⟨none, none, .store 2 (.tmp 12) (.tmp 83)⟩,
      ⟨(some 13), none, .mov (.tmp 84)⟩] [1, 2, 3, 4, 5, 11, 12, 13])
  (.seq (.seq (.ops [⟨(some 85), none, .mov (.tmp 13)⟩,
      ⟨(some 86), none, .bin .neq (.tmp 85) (.const (.int .i64 0))⟩,
      ⟨(some 87), none, .mov (.tmp 86)⟩,
      ⟨(some 88), (some (87, false)), .load (some 2) (.tmp 12)⟩,
      ⟨(some 89), (some (87, false)), .callF 21 [(.tmp 88)]⟩,
      ⟨(some 90), (some (87, false)), .bin .neq (.tmp 89) (.const (.int .i64 0))⟩,
      ⟨(some 91), none, .pick (.tmp 87) (.const (.bool true)) (.tmp 90)⟩,
      ⟨(some 92), none, .mov (.tmp 91)⟩,
      ⟨(some 93), (some (92, false)), .fldA 0 (.tmp 12)⟩,
      ⟨(some 94), (some (92, false)), .load none (.tmp 93)⟩,
      ⟨(some 95), (some (92, false)), .fldA 0 (.tmp 5)⟩,
      ⟨(some 96), (some (92, false)), .load none (.tmp 95)⟩,
      ⟨(some 97), (some (92, false)), .bin .neq (.tmp 94) (.tmp 96)⟩,
      ⟨(some 98), none, .pick (.tmp 92) (.const (.bool true)) (.tmp 97)⟩,
      ⟨(some 99), none, .mov (.tmp 98)⟩,
      ⟨(some 100), (some (99, false)), .fldA 1 (.tmp 12)⟩,
      ⟨(some 101), (some (99, false)), .load none (.tmp 100)⟩,
      ⟨(some 102), (some (99, false)), .len false (.tmp 101)⟩,
      ⟨(some 103), (some (99, false)), .fldA 1 (.tmp 5)⟩,
      ⟨(some 104), (some (99, false)), .load none (.tmp 103)⟩,
      ⟨(some 105), (some (99, false)), .bin .add (.tmp 104) (.const (.int .i64 1))⟩,
      ⟨(some 106), (some (99, false)), .bin .neq (.tmp 102) (.tmp 105)⟩,
      ⟨(some 107), none, .pick (.tmp 99) (.const (.bool true)) (.tmp 106)⟩] [1, 2, 3, 4, 11, 12, 107])
  (.cond (.tmp 107)
    (.seq (.ops [⟨(some 10), none, .mov (.const (.bool false))⟩] [10])
    (.ret))
    (.skip)))
  (.seq (.ops [⟨(some 108), none, .load (some 2) (.tmp 12)⟩,
      ⟨(some 109), none, .callF 22 [(.tmp 108)]⟩,
      ⟨(some 14), none, .alloc 34 [(1, (.int .i64 0)), (1, (.slice none 0 0))]⟩,
      ⟨none, none, .store 2 (.tmp 14) (.tmp 109)⟩] [1, 2, 3, 4, 11, 14])
  (.seq (.draw [⟨(some 110), none, .fldA 1 (.tmp 14)⟩,
      ⟨(some 111), none, .load none (.tmp 110)⟩,
      ⟨(some 112), none, .mov (.tmp 2)⟩,
      ⟨(some 113), none, .idxS 1 (.tmp 111) (.tmp 112)⟩,
      ⟨(some 114), none, .load none (.tmp 113)⟩,
      ⟨(some 115), none, .mov (.tmp 1)⟩,
      ⟨(some 116), none, .fldA 1 (.tmp 14)⟩,
      ⟨(some 117), none, .load none (.tmp 116)⟩,
      ⟨(some 118), none, .mov (.tmp 2)⟩,
      ⟨(some 119), none, .idxS 1 (.tmp 117) (.tmp 118)⟩,
      ⟨(some 120), none, .load none (.tmp 119)⟩,
      ⟨(some 121), none, .mov (.tmp 1)⟩,
      ⟨(some 122), none, .idxS 1 (.tmp 120) (.tmp 121)⟩,
      ⟨(some 123), none, .load none (.tmp 122)⟩,
      ⟨(some 124), none, .un .not (.tmp 123)⟩] [⟨(some 125), none, .idxS 1 (.tmp 114) (.tmp 115)⟩,
      ⟨none, none, .store 1 (.tmp 125) (.tmp 124)⟩] [[], [], [], [], [], [], [], [], [], [], [], [], [], [], []] [3, 4, 11, 14])
  (.seq (.draw [⟨(some 126), none, .fldA 1 (.tmp 14)⟩,
      ⟨(some 127), none, .load none (.tmp 126)⟩,
      ⟨(some 128), none, .mov (.tmp 4)⟩,
      ⟨(some 129), none, .idxS 1 (.tmp 127) (.tmp 128)⟩,
      ⟨(some 130), none, .load none (.tmp 129)⟩,
      ⟨(some 131), none, .mov (.tmp 3)⟩,
      ⟨(some 132), none, .fldA 1 (.tmp 14)⟩,
      ⟨(some 133), none, .load none (.tmp 132)⟩,
      ⟨(some 134), none, .mov (.tmp 4)⟩,
      ⟨(some 135), none, .idxS 1 (.tmp 133) (.tmp 134)⟩,
      ⟨(some 136), none, .load none (.tmp 135)⟩,
      ⟨(some 137), none, .mov (.tmp 3)⟩,
      ⟨(some 138), none, .idxS 1 (.tmp 136) (.tmp 137)⟩,
      ⟨(some 139), none, .load none (.tmp 138)⟩,
      ⟨(some 140), none, .un .not (.tmp 139)⟩] [⟨(some 141), none, .idxS 1 (.tmp 130) (.tmp 131)⟩,
      ⟨none, none, .store 1 (.tmp 141) (.tmp 140)⟩] [[], [], [], [], [], [], [], [], [], [], [], [], [], [], []] [11, 14])
  (.seq (.ops [⟨(some 143), none, .load (some 2) (.tmp 14)⟩,
      ⟨(some 144), none, .callF 24 [(.tmp 143)]⟩,
      ⟨(some 142), none, .mov (.tmp 144)⟩,
      ⟨(some 145), none, .ext (.tmp 142) 0⟩,
      ⟨(some 146), none, .ext (.tmp 142) 1⟩,
      ⟨(some 15), none, .alloc 24 [(2, (.int .i64 0)), (1, (.slice none 0 0))]⟩,
      ⟨none, none, .store 3 (.tmp 15) (.tmp 145)⟩,
      ⟨(some 16), none, .mov (.tmp 146)⟩] [11, 14, 16])
  (.seq (.ops [⟨(some 148), none, .load (some 2) (.tmp 14)⟩,
      ⟨(some 149), none, .callF 23 [(.tmp 148)]⟩,
      ⟨(some 147), none, .mov (.tmp 149)⟩,
      ⟨(some 150), none, .ext (.tmp 147) 0⟩,
      ⟨(some 151), none, .ext (.tmp 147) 1⟩,
      ⟨(some 152), none, .ext (.tmp 147) 2⟩,
      ⟨(some 153), none, .ext (.tmp 147) 3⟩,
      ⟨(some 17), none, .alloc 34 [(1, (.int .i64 0)), (1, (.slice none 0 0))]⟩,
      ⟨(some 18), none, .alloc 47 [(2, (.int .i64 0))]⟩,
      ⟨none, none, .store 2 (.tmp 17) (.tmp 150)⟩,
      ⟨none, none, .store 2 (.tmp 18) (.tmp 151)⟩,
      ⟨(some 19), none, .mov (.tmp 152)⟩,
      ⟨(some 20), none, .mov (.tmp 153)⟩] [11, 16, 20])
  (.seq (.ops [⟨(some 154), none, .mov (.tmp 11)⟩,
      ⟨(some 155), none, .mov (.tmp 154)⟩,
      ⟨(some 156), (some (155, true)), .mov (.tmp 16)⟩,
      ⟨(some 157), (some (155, true)), .bin .eql (.tmp 156) (.const (.int .i64 30))⟩,
      ⟨(some 158), none, .pick (.tmp 155) (.tmp 157) (.const (.bool false))⟩,
      ⟨(some 159), none, .mov (.tmp 158)⟩,
      ⟨(some 160), (some (159, true)), .mov (.tmp 20)⟩,
      ⟨(some 161), (some (159, true)), .bin .eql (.tmp 160) (.const (.int .i64 30))⟩,
      ⟨(some 162), none, .pick (.tmp 159) (.tmp 161) (.const (.bool false))⟩,
      ⟨(some 10), none, .mov (.tmp 162)⟩] [10])
  (.ret))))))))))),
  163, [(10, none)], true⟩
theorem ok5 : FunOK Tryd.prog 5 c5 := ⟨⟨Tryd.f5, _, c5.code, Tryd.func5, rfl, by kernel_rfl, rfl, by kernel_rfl, by kernel_rfl⟩⟩
/- raddle/raddlelaw18.PegBack -/
def c7 : AFun := ⟨
  .seq (.ops [⟨(some 1), none, .box 24 (.tmp 0)⟩,
      ⟨(some 2), none, .mov (.const (.bool false))⟩] [1])
  (.seq (.ops [⟨(some 19), none, .callF 19 []⟩,
      ⟨(some 3), none, .mov (.tmp 19)⟩] [1, 3])
  (.seq (.seq (.ops [⟨(some 20), none, .load (some 3) (.tmp 1)⟩,
      ⟨(some 21), none, .callF 20 [(.tmp 20)]⟩,
      ⟨(some 22), none, .un .not (.tmp 21)⟩,
      ⟨(some 23), none, .mov (.tmp 22)⟩,
      ⟨(some 24), (some (23, false)), .mov (.tmp 3)⟩,
      ⟨(some 25), (some (23, false)), .un .not (.tmp 24)⟩,
      ⟨(some 26), none, .pick (.tmp 23) (.const (.bool true)) (.tmp 25)⟩] [1, 3, 26])
  (.cond (.tmp 26)
    (.seq (.ops [⟨(some 27), none, .mov (.tmp 3)⟩,
        ⟨(some 2), none, .mov (.tmp 27)⟩] [2])
    (.ret))
    (.skip)))
  (.seq (.ops [⟨(some 29), none, .load (some 3) (.tmp 1)⟩,
      ⟨(some 30), none, .callF 11 [(.tmp 29)]⟩,
      ⟨(some 28), none, .mov (.tmp 30)⟩,
      ⟨(some 31), none, .ext (.tmp 28) 0⟩,
      ⟨(some 32), none, .ext (.tmp 28) 1⟩,
      ⟨(some 4), none, .mov (.tmp 31)⟩,
      ⟨(some 5), none, .mov (.tmp 32)⟩] [1, 3, 4, 5])
  (.seq (.ops [⟨(some 34), none, .mov (.tmp 4)⟩,
      ⟨(some 35), none, .fldA 0 (.tmp 1)⟩,
      ⟨(some 36), none, .load none (.tmp 35)⟩,
      ⟨(some 37), none, .callF 25 [(.tmp 34), (.tmp 36)]⟩,
      ⟨(some 33), none, .mov (.tmp 37)⟩,
      ⟨(some 38), none, .ext (.tmp 33) 0⟩,
      ⟨(some 39), none, .ext (.tmp 33) 1⟩,
      ⟨(some 6), none, .alloc 24 [(2, (.int .i64 0)), (1, (.slice none 0 0))]⟩,
      ⟨none, none, .store 3 (.tmp 6) (.tmp 38)⟩,
      ⟨(some 7), none, .mov (.tmp 39)⟩] [1, 3, 5, 6, 7])
  (.seq (.ops [⟨(some 41), none, .load (some 3) (.tmp 1)⟩,
      ⟨(some 42), none, .callF 13 [(.tmp 41)]⟩,
      ⟨(some 40), none, .mov (.tmp 42)⟩,
      ⟨(some 43), none, .ext (.tmp 40) 0⟩,
      ⟨(some 44), none, .ext (.tmp 40) 1⟩,
      ⟨(some 8), none, .alloc 34 [(1, (.int .i64 0)), (1, (.slice none 0 0))]⟩,
      ⟨none, none, .store 2 (.tmp 8) (.tmp 43)⟩,
      ⟨(some 9), none, .mov (.tmp 44)⟩] [1, 3, 5, 6, 7, 8, 9])
  (.seq (.seq (.ops [⟨(some 45), none, .mov (.tmp 5)⟩,
      ⟨(some 46), none, .bin .neq (.tmp 45) (.const (.int .i64 0))⟩,
      ⟨(some 47), none, .mov (.tmp 46)⟩,
      ⟨(some 48), (some (47, false)), .mov (.tmp 7)⟩,
      ⟨(some 49), (some (47, false)), .bin .neq (.tmp 48) (.const (.int .i64 0))⟩,
      ⟨(some 50), none, .pick (.tmp 47) (.const (.bool true)) (.tmp 49)⟩,
      ⟨(some 51), none, .mov (.tmp 50)⟩,
      ⟨(some 52), (some (51, false)), .mov (.tmp 9)⟩,
      ⟨(some 53), (some (51, false)), .bin .neq (.tmp 52) (.const (.int .i64 0))⟩,
      ⟨(some 54), none, .pick (.tmp 51) (.const (.bool true)) (.tmp 53)⟩,
      ⟨(some 55), none, .mov (.tmp 54)⟩,
      ⟨(some 56), (some (55, false)), .load (some 3) (.tmp 1)⟩,
      ⟨(some 57), (some (55, false)), .load (some 3) (.tmp 6)⟩,
      ⟨(some 58), (some (55, false)), .callF 18 [(.tmp 56), (.tmp 57)]⟩,
      ⟨(some 59), (some (55, false)), .un .not (.tmp 58)⟩,
      ⟨(some 60), none, .pick (.tmp 55) (.const (.bool true)) (.tmp 59)⟩,
      ⟨(some 61), none, .mov (.tmp 60)⟩,
      ⟨(some 62), (some (61, false)), .load (some 2) (.tmp 8)⟩,
      ⟨(some 63), (some (61, false)), .callF 21 [(.tmp 62)]⟩,
      ⟨(some 64), (some (61, false)), .bin .neq (.tmp 63) (.const (.int .i64 0))⟩,
      ⟨(some 65), none, .pick (.tmp 61) (.const (.bool true)) (.tmp 64)⟩] [1, 3, 8, 65])
  (.cond (.tmp 65)
    (.seq (.ops [⟨(some 2), none, .mov (.const (.bool false))⟩] [2])
    (.ret))
    (.skip)))
  (.seq (.ops [⟨(some 67), none, .load (some 2) (.tmp 8)⟩,
      ⟨(some 68), none, .callF 24 [(.tmp 67)]⟩,
      ⟨(some 66), none, .mov (.tmp 68)⟩,
      ⟨(some 69), none, .ext (.tmp 66) 0⟩,
      ⟨(some 70), none, .ext (.tmp 66) 1⟩,
      ⟨(some 10), none, .alloc 24 [(2, (.int .i64 0)), (1, (.slice none 0 0))]⟩,
      ⟨none, none, .store 3 (.tmp 10) (.tmp 69)⟩,
      ⟨(some 11), none, .mov (.tmp 70)⟩] [1, 3, 8, 10, 11])
  (.seq (.ops [⟨(some 72), none, .load (some 2) (.tmp 8)⟩,
      ⟨(some 73), none, .callF 29 [(.tmp 72)]⟩,
      ⟨(some 71), none, .mov (.tmp 73)⟩,
      ⟨(some 74), none, .ext (.tmp 71) 0⟩,
      ⟨(some 75), none, .ext (.tmp 71) 1⟩,
      ⟨(some 12), none, .mov (.tmp 74)⟩,
      ⟨(some 13), none, .mov (.tmp 75)⟩] [1, 3, 8, 10, 11, 12, 13])
  (.seq (.ops [⟨(some 77), none, .mov (.tmp 12)⟩,
      ⟨(some 78), none, .callF 27 [(.tmp 77)]⟩,
      ⟨(some 76), none, .mov (.tmp 78)⟩,
      ⟨(some 79), none, .ext (.tmp 76) 0⟩,
      ⟨(some 80), none, .ext (.tmp 76) 1⟩,
      ⟨(some 14), none, .alloc 34 [(1, (.int .i64 0)), (1, (.slice none 0 0))]⟩,
      ⟨none, none, .store 2 (.tmp 14) (.tmp 79)⟩,
      ⟨(some 15), none, .mov (.tmp 80)⟩] [1, 3, 8, 10, 11, 13, 14, 15])
  (.seq (.ops [⟨(some 82), none, .load (some 2) (.tmp 8)⟩,
      ⟨(some 83), none, .callF 30 [(.tmp 82)]⟩,
      ⟨(some 81), none, .mov (.tmp 83)⟩,
      ⟨(some 84), none, .ext (.tmp 81) 0⟩,
      ⟨(some 85), none, .ext (.tmp 81) 1⟩,
      ⟨(some 86), none, .ext (.tmp 81) 2⟩,
      ⟨(some 16), none, .mov (.tmp 84)⟩,
      ⟨(some 17), none, .mov (.tmp 85)⟩,
      ⟨(some 18), none, .mov (.tmp 86)⟩] [1, 3, 8, 10, 11, 13, 14, 15, 16, 17, 18])
  (.seq (.ops [⟨(some 87), none, .mov (.tmp 3)⟩,
      ⟨(some 88), none, .mov (.tmp 87)⟩,
      ⟨(some 89), (some (88, true)), .mov (.tmp 11)⟩,
      ⟨(some 90), (some (88, true)), .bin .eql (.tmp 89) (.const (.int .i64 0))⟩,
      ⟨(some 91), none, .pick (.tmp 88) (.tmp 90) (.const (.bool false))⟩,
      ⟨(some 92), none, .mov (.tmp 91)⟩,
      ⟨(some 93), (some (92, true)), .load (some 3) (.tmp 10)⟩,
      ⟨(some 94), (some (92, true)), .load (some 3) (.tmp 1)⟩,
      ⟨(some 95), (some (92, true)), .callF 18 [(.tmp 93), (.tmp 94)]⟩,
      ⟨(some 96), none, .pick (.tmp 92) (.tmp 95) (.const (.bool false))⟩,
      ⟨(some 97), none, .mov (.tmp 96)⟩,
      ⟨(some 98), (some (97, true)), .mov (.tmp 13)⟩,
      ⟨(some 99), (some (97, true)), .bin .eql (.tmp 98) (.const (.int .i64 0))⟩,
      ⟨(some 100), none, .pick (.tmp 97) (.tmp 99) (.const (.bool false))⟩,
      ⟨(some 101), none, .mov (.tmp 100)⟩,
      ⟨(some 102), (some (101, true)), .mov (.tmp 15)⟩,
      ⟨(some 103), (some (101, true)), .bin .eql (.tmp 102) (.const (.int .i64 0))⟩,
      ⟨(some 104), none, .pick (.tmp 101) (.tmp 103) (.const (.bool false))⟩,
      ⟨(some 105), none, .mov (.tmp 104)⟩,
      ⟨(some 106), (some (105, true)), .load (some 2) (.tmp 14)⟩,
      ⟨(some 107), (some (105, true)), .load (some 2) (.tmp 8)⟩,
      ⟨(some 108), (some (105, true)), .callF 17 [(.tmp 106), (.tmp 107)]⟩,
      ⟨(some 109), none, .pick (.tmp 105) (.tmp 108) (.const (.bool false))⟩,
      ⟨(some 110), none, .mov (.tmp 109)⟩,
      ⟨(some 111), (some (110, true)), .mov (.tmp 18)⟩,
      ⟨(some 112), (some (110, true)), .bin .eql (.tmp 111) (.const (.int .i64 0))⟩,
      ⟨(some 113), none, .pick (.tmp 110) (.tmp 112) (.const (.bool false))⟩,
      ⟨(some 114), none, .mov (.tmp 113)⟩,
      ⟨(some 115), (some (114, true)), .mov (.tmp 16)⟩,
      ⟨(some 116), (some (114, true)), .len false (.tmp 115)⟩,
      ⟨(some 117), (some (114, true)), .bin .eql (.tmp 116) (.const (.int .i64 0))⟩,
      ⟨(some 118), none, .pick (.tmp 114) (.tmp 117) (.const (.bool false))⟩,
      ⟨(some 119), none, .mov (.tmp 118)⟩,
      ⟨(some 120), (some (119, true)), .mov (.tmp 17)⟩,
      ⟨(some 121), (some (119, true)), .len false (.tmp 120)⟩,
      ⟨(some 122), (some (119, true)), .bin .eql (.tmp 121) (.const (.int .i64 0))⟩,
      ⟨(some 123), none, .pick (.tmp 119) (.tmp 122) (.const (.bool false))⟩,
      ⟨(some 2), none, .mov (.tmp 123)⟩] [2])
  (.ret)))))))))))),
  124, [(2, none)], true⟩
theorem ok7 : FunOK Tryd.prog 7 c7 := ⟨⟨Tryd.f7, _, c7.code, Tryd.func7, rfl, by kernel_rfl, rfl, by kernel_rfl, by kernel_rfl⟩⟩
/- raddle/raddleref01.Great -/
def c9 : AFun := ⟨
  .seq (.ops [⟨(some 1), none, .box 24 (.tmp 0)⟩,
      ⟨(some 2), none, .mov (.const (.bool false))⟩] [1])
  (.seq (.ops [⟨(some 3), none, .fldA 2 (.tmp 1)⟩,
      ⟨(some 4), none, .load none (.tmp 3)⟩,
      ⟨(some 5), none, .len false (.tmp 4)⟩,
      ⟨(some 6), none, .bin .gtr (.tmp 5) (.const (.int .i64 4200))⟩,
      ⟨(some 2), none, .mov (.tmp 6)⟩] [2])
  (.ret)),
  7, [(2, none)], true⟩
theorem ok9 : FunOK Tryd.prog 9 c9 := ⟨⟨Tryd.f9, _, c9.code, Tryd.func9, rfl, by kernel_rfl, rfl, by kernel_rfl, by kernel_rfl⟩⟩
/- raddle/raddleref01.Twin -/
def c10 : AFun := ⟨
  .seq (.ops [⟨(some 1), none, .box 24 (.tmp 0)⟩,
      ⟨(some 2), none, .alloc 24 [(2, (.int .i64 0)), (1, (.slice none 0 0))]⟩] [1, 2])
  (.seq (.draw [⟨(some 3), none, .fldA 0 (.tmp 1)⟩,
      ⟨(some 4), none, .load none (.tmp 3)⟩,
      ⟨(some 5), none, .fldA 1 (.tmp 1)⟩,
      ⟨(some 6), none, .load none (.tmp 5)⟩,
      ⟨(some 7), none, .mkRow 4 1 0 [(.bool false)] []⟩,
      ⟨(some 8), none, .fldA 2 (.tmp 1)⟩,
      ⟨(some 9), none, .load none (.tmp 8)⟩,
      ⟨(some 10), none, .app 4 1 1 (.tmp 7) (.tmp 9)⟩] [⟨(some 11), none, .build [(.int .i64 0), (.int .i64 0), (.slice none 0 0)] [(0, 1, (.tmp 4)), (1, 1, (.tmp 6)), (2, 1, (.tmp 10))]⟩,
      ⟨none, none, .store 3 (.tmp 2) (.tmp 11)⟩] [[], [], [], [], [], [false, false, false, false, false], [true, false, false, false, false, false], []] [2])
  (.ret)),
  12, [(2, (some (some 3)))], true⟩
theorem ok10 : FunOK Tryd.prog 10 c10 := ⟨⟨Tryd.f10, _, c10.code, Tryd.func10, rfl, by kernel_rfl, rfl, by kernel_rfl, by kernel_rfl⟩⟩
/- raddle/peg.Plan -/
def c11l0 : AC :=
  .seq (.ops [⟨(some 34), none, .bin .lss (.tmp 33) (.tmp 32)⟩] [1, 5, 7, 16, 17, 31, 32, 33, 34])
            (.seq (.cond (.tmp 34)
              (.skip)
              (.exit 2))
            (.seq (.block 3
              (.seq (.ops [⟨(some 35), none, .mov (.tmp 33)⟩,
                  ⟨(some 36), none, .idxS 1 (.tmp 31) (.tmp 33)⟩,
                  ⟨(some 37), none, .load none (.tmp 36)⟩,
                  ⟨(some 8), none, .mov (.tmp 35)⟩,
                  ⟨(some 9), none, .mov (.tmp 37)⟩] [1, 5, 7, 8, 9, 16, 17, 31, 32, 33])
              (.seq (.ops [⟨(some 38), none, .mov (.tmp 9)⟩] [1, 5, 7, 8, 16, 17, 31, 32, 33, 38])
              (.cond (.tmp 38)
                (.ops [⟨(some 39), none, .mov (.tmp 7)⟩,
                    ⟨(some 40), none, .mov (.tmp 8)⟩,
                    ⟨(some 41), none, .bin .add (.tmp 40) (.const (.int .i64 1))⟩,
                    ⟨(some 42), none, .callF 32 [(.tmp 41)]⟩,
                    ⟨(some 43), none, .mkRow 9 1 1 [(.string ⟨#[]⟩)] [(0, 1, (.tmp 42))]⟩,
                    ⟨(some 44), none, .app 9 1 16 (.tmp 39) (.tmp 43)⟩,
                    ⟨(some 7), none, .mov (.tmp 44)⟩] [1, 5, 7, 16, 17, 31, 32, 33])
                (.skip)))))
            (.ops [⟨(some 45), none, .bin .add (.tmp 33) (.const (.int .i64 1))⟩,
                ⟨(some 33), none, .mov (.tmp 45)⟩] [1, 5, 7, 16, 17, 31, 32, 33])))
def c11l1 : AC :=
  .seq (.ops [⟨(some 18), none, .bin .lss (.tmp 17) (.tmp 16)⟩] [1, 5, 16, 17, 18])
      (.seq (.cond (.tmp 18)
        (.skip)
        (.exit 0))
      (.seq (.block 1
        (.seq (.ops [⟨(some 19), none, .mov (.tmp 17)⟩,
            ⟨(some 6), none, .mov (.tmp 19)⟩] [1, 5, 6, 16, 17])
        (.seq (.ops [⟨(some 7), none, .mov (.const (.slice none 0 0))⟩] [1, 5, 6, 7, 16, 17])
        (.seq (.seq (.ops [⟨(some 20), none, .fldA 2 (.tmp 1)⟩,
            ⟨(some 21), none, .load none (.tmp 20)⟩,
            ⟨(some 22), none, .mov (.tmp 6)⟩,
            ⟨(some 23), none, .fldA 0 (.tmp 1)⟩,
            ⟨(some 24), none, .load none (.tmp 23)⟩,
            ⟨(some 25), none, .bin .mul (.tmp 22) (.tmp 24)⟩,
            ⟨(some 26), none, .mov (.tmp 6)⟩,
            ⟨(some 27), none, .bin .add (.tmp 26) (.const (.int .i64 1))⟩,
            ⟨(some 28), none, .fldA 0 (.tmp 1)⟩,
            ⟨(some 29), none, .load none (.tmp 28)⟩,
            ⟨(some 30), none, .bin .mul (.tmp 27) (.tmp 29)⟩,
            ⟨(some 31), none, .slc 1 (.tmp 21) (some (.tmp 25)) (some (.tmp 30)) none⟩,
            ⟨(some 32), none, .len false (.tmp 31)⟩,
            ⟨(some 33), none, .mov (.const (.int .i64 0))⟩] [1, 5, 7, 16, 17, 31, 32, 33])
        (.block 2
          (.loop [1, 5, 7, 16, 17, 31, 32, 33]
            c11l0)))
        (.seq (.seq (.ops [⟨(some 46), none, .mov (.tmp 7)⟩,
            ⟨(some 47), none, .eqNil 1 false (.tmp 46) (.const (.slice none 0 0))⟩] [1, 5, 7, 16, 17, 47])
        (.cond (.tmp 47)
          (.ops [⟨(some 48), none, .mkRow 9 1 1 [(.string ⟨#[]⟩)] [(0, 1, (.const (.string ⟨#[45]⟩)))]⟩,
              ⟨(some 7), none, .mov (.tmp 48)⟩] [1, 5, 7, 16, 17])
          (.skip)))
        (.ops [⟨(some 49), none, .mov (.tmp 7)⟩,
            ⟨(some 50), none, .callF 34 [(.tmp 49), (.const (.string ⟨#[32]⟩))]⟩,
            ⟨(some 51), none, .bin .add (.tmp 50) (.const (.string ⟨#[10]⟩))⟩,
            ⟨(some 52), none, .callF 33 [(.tmp 5), (.tmp 51)]⟩] [1, 5, 16, 17]))))))
      (.ops [⟨(some 53), none, .bin .add (.tmp 17) (.const (.int .i64 1))⟩,
          ⟨(some 17), none, .mov (.tmp 53)⟩] [1, 5, 16, 17])))
def c11 : AFun := ⟨
  .seq (.ops [⟨(some 1), none, .box 24 (.tmp 0)⟩,
      ⟨(some 2), none, .mov (.const (.string ⟨#[]⟩))⟩,
      ⟨(some 3), none, .mov (.const (.int .i64 0))⟩] [1])
  (.seq (.seq (.ops [⟨(some 10), none, .load (some 3) (.tmp 1)⟩,
      ⟨(some 11), none, .callF 15 [(.tmp 10)]⟩,
      ⟨(some 4), none, .mov (.tmp 11)⟩] [1, 4])
  (.seq (.ops [⟨(some 12), none, .mov (.tmp 4)⟩,
      ⟨(some 13), none, .bin .neq (.tmp 12) (.const (.int .i64 0))⟩] [1, 4, 13])
  (.cond (.tmp 13)
    (.seq (.ops [⟨(some 14), none, .mov (.tmp 4)⟩,
        ⟨(some 2), none, .mov (.const (.string ⟨#[]⟩))⟩,
        ⟨(some 3), none, .mov (.tmp 14)⟩] [2, 3])
    (.ret))
    (.skip))))
  (.seq (.ops [⟨(some 5), none, .alloc 69 [(1, (.pointer none)), (1, (.slice none 0 0))]⟩] [1, 5])
  (.seq (.seq (.ops [⟨(some 15), none, .fldA 1 (.tmp 1)⟩,
      ⟨(some 16), none, .load none (.tmp 15)⟩,
      ⟨(some 17), none, .mov (.const (.int .i64 0))⟩] [1, 5, 16, 17])
  (.block 0
    (.loop [1, 5, 16, 17]
      c11l1)))
  (.seq (.ops [⟨(some 54), none, .callF 35 [(.tmp 5)]⟩,
      ⟨(some 2), none, .mov (.tmp 54)⟩,
      ⟨(some 3), none, .mov (.const (.int .i64 0))⟩] [2, 3])
  (.ret))))),
  55, [(2, none), (3, none)], false⟩
theorem ok11 : FunOK Tryd.prog 11 c11 := ⟨⟨Tryd.f11, _, c11.code, Tryd.func11, rfl, by kernel_rfl, rfl, by kernel_rfl, by kernel_rfl⟩⟩
/- raddle/raddleref18.Plan -/
def c12l0 : AC :=
  .seq (.seq (.ops [⟨(some 19), none, .mov (.tmp 7)⟩,
                ⟨(some 20), none, .fldA 0 (.tmp 1)⟩,
                ⟨(some 21), none, .load none (.tmp 20)⟩,
                ⟨(some 22), none, .bin .lss (.tmp 19) (.tmp 21)⟩] [1, 4, 5, 6, 7, 22])
            (.cond (.tmp 22)
              (.skip)
              (.exit 2)))
            (.seq (.block 3
              (.seq (.ops [⟨(some 25), none, .load (some 3) (.tmp 1)⟩,
                  ⟨(some 26), none, .mov (.tmp 7)⟩,
                  ⟨(some 27), none, .mov (.tmp 5)⟩,
                  ⟨(some 28), none, .callF 36 [(.tmp 25), (.tmp 26), (.tmp 27)]⟩] [1, 4, 5, 6, 7, 28])
              (.cond (.tmp 28)
                (.seq (.seq (.ops [⟨(some 29), none, .mov (.tmp 6)⟩,
                    ⟨(some 30), none, .bin .neq (.tmp 29) (.const (.string ⟨#[]⟩))⟩] [1, 4, 5, 6, 7, 30])
                (.cond (.tmp 30)
                  (.ops [⟨(some 31), none, .mov (.tmp 6)⟩,
                      ⟨(some 32), none, .bin .add (.tmp 31) (.const (.string ⟨#[32]⟩))⟩,
                      ⟨(some 6), none, .mov (.tmp 32)⟩] [1, 4, 5, 6, 7])
                  (.skip)))
                (.ops [⟨(some 33), none, .mov (.tmp 6)⟩,
                    ⟨(some 34), none, .mov (.tmp 7)⟩,
                    ⟨(some 35), none, .bin .add (.tmp 34) (.const (.int .i64 1))⟩,
                    ⟨(some 36), none, .callF 37 [(.tmp 35)]⟩,
                    ⟨(some 37), none, .bin .add (.tmp 33) (.tmp 36)⟩,
                    ⟨(some 6), none, .mov (.tmp 37)⟩] [1, 4, 5, 6, 7]))
                (.skip))))
            (.ops [⟨(some 23), none, .mov (.tmp 7)⟩,
                ⟨(some 24), none, .bin .add (.tmp 23) (.const (.int .i64 1))⟩,
                ⟨(some 7), none, .mov (.tmp 24)⟩] [1, 4, 5, 6, 7]))
def c12l1 : AC :=
  .seq (.seq (.ops [⟨(some 13), none, .mov (.tmp 5)⟩,
          ⟨(some 14), none, .fldA 1 (.tmp 1)⟩,
          ⟨(some 15), none, .load none (.tmp 14)⟩,
          ⟨(some 16), none, .bin .lss (.tmp 13) (.tmp 15)⟩] [1, 4, 5, 16])
      (.cond (.tmp 16)
        (.skip)
        (.exit 0)))
      (.seq (.block 1
        (.seq (.ops [⟨(some 6), none, .mov (.const (.string ⟨#[]⟩))⟩] [1, 4, 5, 6])
        (.seq (.seq (.ops [⟨(some 7), none, .mov (.const (.int .i64 0))⟩] [1, 4, 5, 6, 7])
        (.block 2
          (.loop [1, 4, 5, 6, 7]
            c12l0)))
        (.seq (.seq (.ops [⟨(some 38), none, .mov (.tmp 6)⟩,
            ⟨(some 39), none, .bin .eql (.tmp 38) (.const (.string ⟨#[]⟩))⟩] [1, 4, 5, 6, 39])
        (.cond (.tmp 39)
          (.ops [⟨(some 6), none, .mov (.const (.string ⟨#[45]⟩))⟩] [1, 4, 5, 6])
          (.skip)))
        (.ops [⟨(some 40), none, .mov (.tmp 4)⟩,
            ⟨(some 41), none, .mov (.tmp 6)⟩,
            ⟨(some 42), none, .bin .add (.tmp 40) (.tmp 41)⟩,
            ⟨(some 43), none, .bin .add (.tmp 42) (.const (.string ⟨#[10]⟩))⟩,
            ⟨(some 4), none, .mov (.tmp 43)⟩] [1, 4, 5])))))
      (.ops [⟨(some 17), none, .mov (.tmp 5)⟩,
          ⟨(some 18), none, .bin .add (.tmp 17) (.const (.int .i64 1))⟩,
          ⟨(some 5), none, .mov (.tmp 18)⟩] [1, 4, 5]))
def c12 : AFun := ⟨
  .seq (.ops [⟨(some 1), none, .box 24 (.tmp 0)⟩,
      ⟨(some 2), none, .mov (.const (.string ⟨#[]⟩))⟩,
      ⟨(some 3), none, .mov (.const (.int .i64 0))⟩] [1])
  (.seq (.seq (.ops [⟨(some 8), none, .load (some 3) (.tmp 1)⟩,
      ⟨(some 9), none, .callF 16 [(.tmp 8)]⟩,
      ⟨(some 10), none, .bin .neq (.tmp 9) (.const (.int .i64 0))⟩] [1, 10])
  (.cond (.tmp 10)
    (.seq (.ops [⟨(some 11), none, .load (some 3) (.tmp 1)⟩,
        ⟨(some 12), none, .callF 16 [(.tmp 11)]⟩,
        ⟨(some 2), none, .mov (.const (.string ⟨#[]⟩))⟩,
        ⟨(some 3), none, .mov (.tmp 12)⟩] [2, 3])
    (.ret))
    (.skip)))
  (.seq (.ops [⟨(some 4), none, .mov (.const (.string ⟨#[]⟩))⟩] [1, 4])
  (.seq (.seq (.ops [⟨(some 5), none, .mov (.const (.int .i64 0))⟩] [1, 4, 5])
  (.block 0
    (.loop [1, 4, 5]
      c12l1)))
  (.seq (.ops [⟨(some 44), none, .mov (.tmp 4)⟩,
      ⟨(some 2), none, .mov (.tmp 44)⟩,
      ⟨(some 3), none, .mov (.const (.int .i64 0))⟩] [2, 3])
  (.ret))))),
  45, [(2, none), (3, none)], false⟩
theorem ok12 : FunOK Tryd.prog 12 c12 := ⟨⟨Tryd.f12, _, c12.code, Tryd.func12, rfl, by kernel_rfl, rfl, by kernel_rfl, by kernel_rfl⟩⟩
/- raddle/peg.Encode -/
def c13l0 : AC :=
  .seq (.ops [⟨(some 64), none, .bin .lss (.tmp 63) (.tmp 62)⟩] [1, 2, 5, 8, 62, 63, 64])
      (.seq (.cond (.tmp 64)
        (.skip)
        (.exit 2))
      (.seq (.block 3
        (.seq (.ops [⟨(some 65), none, .mov (.tmp 63)⟩,
            ⟨(some 9), none, .alloc 3 [(1, (.int .i64 0))]⟩,
            ⟨none, none, .store 1 (.tmp 9) (.tmp 65)⟩] [1, 2, 5, 8, 9, 62, 63])
        (.draw [⟨(some 66), none, .mov (.tmp 8)⟩,
            ⟨(some 67), none, .load none (.tmp 9)⟩,
            ⟨(some 68), none, .fldA 1 (.tmp 1)⟩,
            ⟨(some 69), none, .load none (.tmp 68)⟩,
            ⟨(some 70), none, .mkFn 40 [] [(.tmp 5), (.tmp 9)]⟩,
            ⟨(some 71), none, .callF 38 [(.tmp 69), (.tmp 70)]⟩] [⟨(some 72), none, .idxS 1 (.tmp 66) (.tmp 67)⟩,
            ⟨none, none, .store 1 (.tmp 72) (.tmp 71)⟩] [[], [], [], [], [], []] [1, 2, 5, 8, 62, 63])))
      (.ops [⟨(some 73), none, .bin .add (.tmp 63) (.const (.int .i64 1))⟩,
          ⟨(some 63), none, .mov (.tmp 73)⟩] [1, 2, 5, 8, 62, 63])))
def c13l1 : AC :=
  .seq (.ops [⟨(some 22), none, .bin .lss (.tmp 21) (.tmp 20)⟩] [1, 2, 5, 20, 21, 22])
      (.seq (.cond (.tmp 22)
        (.skip)
        (.exit 0))
      (.seq (.block 1
        (.seq (.ops [⟨(some 23), none, .mov (.tmp 21)⟩,
            ⟨(some 6), none, .mov (.tmp 23)⟩] [1, 2, 5, 6, 20, 21])
        (.seq (.ops [⟨(some 24), none, .fldA 0 (.tmp 1)⟩,
            ⟨(some 25), none, .load none (.tmp 24)⟩,
            ⟨(some 26), none, .bin .add (.tmp 25) (.const (.int .i64 1))⟩,
            ⟨(some 27), none, .mkSlice 4 1 1 [(.bool false)] (.tmp 26) (.tmp 26)⟩,
            ⟨(some 7), none, .alloc 22 [(1, (.slice none 0 0))]⟩,
            ⟨none, none, .store 1 (.tmp 7) (.tmp 27)⟩] [1, 2, 5, 6, 7, 20, 21])
        (.seq (.draw [⟨(some 28), none, .load none (.tmp 7)⟩,
            ⟨(some 29), none, .fldA 2 (.tmp 1)⟩,
            ⟨(some 30), none, .load none (.tmp 29)⟩,
            ⟨(some 31), none, .mov (.tmp 6)⟩,
            ⟨(some 32), none, .fldA 0 (.tmp 1)⟩,
            ⟨(some 33), none, .load none (.tmp 32)⟩,
            ⟨(some 34), none, .bin .mul (.tmp 31) (.tmp 33)⟩,
            ⟨(some 35), none, .mov (.tmp 6)⟩,
            ⟨(some 36), none, .bin .add (.tmp 35) (.const (.int .i64 1))⟩,
            ⟨(some 37), none, .fldA 0 (.tmp 1)⟩,
            ⟨(some 38), none, .load none (.tmp 37)⟩,
            ⟨(some 39), none, .bin .mul (.tmp 36) (.tmp 38)⟩,
            ⟨(some 40), none, .slc 1 (.tmp 30) (some (.tmp 34)) (some (.tmp 39)) none⟩] [⟨(some 41), none, .copy 1 (.tmp 28) (.tmp 40)⟩] [[], [], [], [], [], [], [], [], [], [], [], [], []] [1, 2, 5, 7, 20, 21])
        (.seq (.draw [⟨(some 42), none, .load none (.tmp 7)⟩,
            ⟨(some 43), none, .fldA 0 (.tmp 1)⟩,
            ⟨(some 44), none, .load none (.tmp 43)⟩,
            ⟨(some 45), none, .fldA 0 (.tmp 1)⟩,
            ⟨(some 46), none, .load none (.tmp 45)⟩,
            ⟨(some 47), none, .mkFn 39 [] [(.tmp 7)]⟩,
            ⟨(some 48), none, .callF 38 [(.tmp 46), (.tmp 47)]⟩] [⟨(some 49), none, .idxS 1 (.tmp 42) (.tmp 44)⟩,
            ⟨none, none, .store 1 (.tmp 49) (.tmp 48)⟩] [[], [], [], [], [], [], []] [1, 2, 5, 7, 20, 21])
        (.ops [⟨(some 50), none, .fldA 1 (.tmp 5)⟩,
            ⟨(some 51), none, .load none (.tmp 50)⟩,
            ⟨(some 52), none, .load none (.tmp 7)⟩,
            ⟨(some 53), none, .mkRow 22 1 1 [(.slice none 0 0)] [(0, 1, (.tmp 52))]⟩,
            ⟨(some 54), none, .app 22 1 24 (.tmp 51) (.tmp 53)⟩,
            ⟨(some 55), none, .fldA 1 (.tmp 5)⟩,
            ⟨none, none, .store 1 (.tmp 55) (.tmp 54)⟩] [1, 2, 5, 20, 21]))))))
      (.ops [⟨(some 56), none, .bin .add (.tmp 21) (.const (.int .i64 1))⟩,
          ⟨(some 21), none, .mov (.tmp 56)⟩] [1, 2, 5, 20, 21])))
def c13 : AFun := ⟨
  .seq (.ops [⟨(some 1), none, .box 24 (.tmp 0)⟩,
      ⟨(some 2), none, .alloc 34 [(1, (.int .i64 0)), (1, (.slice none 0 0))]⟩,
      ⟨(some 3), none, .mov (.const (.int .i64 0))⟩] [1, 2])
  (.seq (.seq (.ops [⟨(some 10), none, .load (some 3) (.tmp 1)⟩,
      ⟨(some 11), none, .callF 15 [(.tmp 10)]⟩,
      ⟨(some 4), none, .mov (.tmp 11)⟩] [1, 2, 4])
  (.seq (.ops [⟨(some 12), none, .mov (.tmp 4)⟩,
      ⟨(some 13), none, .bin .neq (.tmp 12) (.const (.int .i64 0))⟩] [1, 2, 4, 13])
  (.cond (.tmp 13)
    (.seq (.ops [⟨(some 14), none, .build [(.int .i64 0), (.slice none 0 0)] []⟩,
        ⟨(some 15), none, .mov (.tmp 4)⟩,
        ⟨none, none, .store 2 (.tmp 2) (.tmp 14)⟩,
        ⟨(some 3), none, .mov (.tmp 15)⟩] [2, 3])
    (.ret))
    (.skip))))
  (.seq (.ops [⟨(some 16), none, .fldA 0 (.tmp 1)⟩,
      ⟨(some 17), none, .load none (.tmp 16)⟩,
      ⟨(some 18), none, .build [(.int .i64 0), (.slice none 0 0)] [(0, 1, (.tmp 17))]⟩,
      ⟨(some 5), none, .alloc 34 [(1, (.int .i64 0)), (1, (.slice none 0 0))]⟩,
      ⟨none, none, .store 2 (.tmp 5) (.tmp 18)⟩] [1, 2, 5])
  (.seq (.seq (.ops [⟨(some 19), none, .fldA 1 (.tmp 1)⟩,
      ⟨(some 20), none, .load none (.tmp 19)⟩,
      ⟨(some 21), none, .mov (.const (.int .i64 0))⟩] [1, 2, 5, 20, 21])
  (.block 0
    (.loop [1, 2, 5, 20, 21]
      c13l1)))
  (.seq (.ops [⟨(some 57), none, .fldA 0 (.tmp 1)⟩,
      ⟨(some 58), none, .load none (.tmp 57)⟩,
      ⟨(some 59), none, .bin .add (.tmp 58) (.const (.int .i64 1))⟩,
      ⟨(some 60), none, .mkSlice 4 1 1 [(.bool false)] (.tmp 59) (.tmp 59)⟩,
      ⟨(some 8), none, .mov (.tmp 60)⟩] [1, 2, 5, 8])
  (.seq (.seq (.ops [⟨(some 61), none, .mov (.tmp 8)⟩,
      ⟨(some 62), none, .len false (.tmp 61)⟩,
      ⟨(some 63), none, .mov (.const (.int .i64 0))⟩] [1, 2, 5, 8, 62, 63])
  (.block 2
    (.loop [1, 2, 5, 8, 62, 63]
      c13l0)))
  (.seq (.ops [⟨(some 74), none, .fldA 1 (.tmp 5)⟩,
      ⟨(some 75), none, .load none (.tmp 74)⟩,
      ⟨(some 76), none, .mov (.tmp 8)⟩,
      ⟨(some 77), none, .mkRow 22 1 1 [(.slice none 0 0)] [(0, 1, (.tmp 76))]⟩,
      ⟨(some 78), none, .app 22 1 24 (.tmp 75) (.tmp 77)⟩,
      ⟨(some 79), none, .fldA 1 (.tmp 5)⟩,
      ⟨none, none, .store 1 (.tmp 79) (.tmp 78)⟩] [2, 5])
  (.seq (.ops [⟨(some 80), none, .load (some 2) (.tmp 5)⟩,
      ⟨none, none, .store 2 (.tmp 2) (.tmp 80)⟩,
      ⟨(some 3), none, .mov (.const (.int .i64 0))⟩] [2, 3])
  (.ret)))))))),
  81, [(2, (some (some 2))), (3, none)], false⟩
theorem ok13 : FunOK Tryd.prog 13 c13 := ⟨⟨Tryd.f13, _, c13.code, Tryd.func13, rfl, by kernel_rfl, rfl, by kernel_rfl, by kernel_rfl⟩⟩
/- raddle/raddleref18.Encode -/
def c14l0 : AC :=
  .seq (.seq (.ops [⟨(some 52), none, .mov (.tmp 8)⟩,
          ⟨(some 53), none, .fldA 0 (.tmp 1)⟩,
          ⟨(some 54), none, .load none (.tmp 53)⟩,
          ⟨(some 55), none, .bin .leq (.tmp 52) (.tmp 54)⟩] [1, 2, 4, 7, 8, 55])
      (.cond (.tmp 55)
        (.skip)
        (.exit 2)))
      (.seq (.block 3
        (.ops [⟨(some 58), none, .mov (.tmp 7)⟩,
            ⟨(some 59), none, .fldA 1 (.tmp 4)⟩,
            ⟨(some 60), none, .load none (.tmp 59)⟩,
            ⟨(some 61), none, .mov (.tmp 8)⟩,
            ⟨(some 62), none, .callF 42 [(.tmp 60), (.tmp 61)]⟩,
            ⟨(some 63), none, .callF 41 [(.tmp 62)]⟩,
            ⟨(some 64), none, .bin .rem (.tmp 63) (.const (.int .i64 2))⟩,
            ⟨(some 65), none, .bin .eql (.tmp 64) (.const (.int .i64 1))⟩,
            ⟨(some 66), none, .mkRow 4 1 1 [(.bool false)] [(0, 1, (.tmp 65))]⟩,
            ⟨(some 67), none, .app 4 1 1 (.tmp 58) (.tmp 66)⟩,
            ⟨(some 7), none, .mov (.tmp 67)⟩] [1, 2, 4, 7, 8]))
      (.ops [⟨(some 56), none, .mov (.tmp 8)⟩,
          ⟨(some 57), none, .bin .add (.tmp 56) (.const (.int .i64 1))⟩,
          ⟨(some 8), none, .mov (.tmp 57)⟩] [1, 2, 4, 7, 8]))
def c14l1 : AC :=
  .seq (.seq (.ops [⟨(some 18), none, .mov (.tmp 5)⟩,
          ⟨(some 19), none, .fldA 1 (.tmp 1)⟩,
          ⟨(some 20), none, .load none (.tmp 19)⟩,
          ⟨(some 21), none, .bin .lss (.tmp 18) (.tmp 20)⟩] [1, 2, 4, 5, 21])
      (.cond (.tmp 21)
        (.skip)
        (.exit 0)))
      (.seq (.block 1
        (.seq (.ops [⟨(some 24), none, .mkRow 4 1 0 [(.bool false)] []⟩,
            ⟨(some 25), none, .fldA 2 (.tmp 1)⟩,
            ⟨(some 26), none, .load none (.tmp 25)⟩,
            ⟨(some 27), none, .mov (.tmp 5)⟩,
            ⟨(some 28), none, .fldA 0 (.tmp 1)⟩,
            ⟨(some 29), none, .load none (.tmp 28)⟩,
            ⟨(some 30), none, .bin .mul (.tmp 27) (.tmp 29)⟩,
            ⟨(some 31), none, .mov (.tmp 5)⟩,
            ⟨(some 32), none, .fldA 0 (.tmp 1)⟩,
            ⟨(some 33), none, .load none (.tmp 32)⟩,
            ⟨(some 34), none, .bin .mul (.tmp 31) (.tmp 33)⟩,
            ⟨(some 35), none, .fldA 0 (.tmp 1)⟩,
            ⟨(some 36), none, .load none (.tmp 35)⟩,
            ⟨(some 37), none, .bin .add (.tmp 34) (.tmp 36)⟩,
            ⟨(some 38), none, .slc 1 (.tmp 26) (some (.tmp 30)) (some (.tmp 37)) none⟩,
            ⟨(some 39), none, .app 4 1 1 (.tmp 24) (.tmp 38)⟩,
            ⟨(some 6), none, .mov (.tmp 39)⟩] [1, 2, 4, 5, 6])
        (.drawW [⟨⟨(some 40), none, .fldA 1 (.tmp 4)⟩, [], none⟩,
            ⟨⟨(some 41), none, .load none (.tmp 40)⟩, [], none⟩,
            ⟨⟨(some 42), none, .mov (.tmp 6)⟩, [0, 1], none⟩,
            ⟨⟨(some 43), none, .mov (.tmp 6)⟩, [0, 1, 2], none⟩,
            ⟨⟨(some 44), none, .callF 41 [(.tmp 43)]⟩, [0, 1, 2], (some [])⟩,
            ⟨⟨(some 45), none, .bin .rem (.tmp 44) (.const (.int .i64 2))⟩, [0, 1, 2], none⟩,
            ⟨⟨(some 46), none, .bin .eql (.tmp 45) (.const (.int .i64 1))⟩, [0, 1, 2], none⟩,
            ⟨⟨(some 47), none, .mkRow 4 1 1 [(.bool false)] [(0, 1, (.tmp 46))]⟩, [0, 1, 2], none⟩,
            ⟨⟨(some 48), none, .app 4 1 1 (.tmp 42) (.tmp 47)⟩, [0, 1], none⟩,
            ⟨⟨(some 49), none, .mkRow 22 1 1 [(.slice none 0 0)] [(0, 1, (.tmp 48))]⟩, [0, 1], none⟩] [⟨(some 50), none, .app 22 1 24 (.tmp 41) (.tmp 49)⟩,
            ⟨(some 51), none, .fldA 1 (.tmp 4)⟩,
            ⟨none, none, .store 1 (.tmp 51) (.tmp 50)⟩] [1, 2, 4, 5])))
      (.ops [⟨(some 22), none, .mov (.tmp 5)⟩,
          ⟨(some 23), none, .bin .add (.tmp 22) (.const (.int .i64 1))⟩,
          ⟨(some 5), none, .mov (.tmp 23)⟩] [1, 2, 4, 5]))
def c14 : AFun := ⟨
  .seq (.ops [⟨(some 1), none, .box 24 (.tmp 0)⟩,
      ⟨(some 2), none, .alloc 34 [(1, (.int .i64 0)), (1, (.slice none 0 0))]⟩,
      ⟨(some 3), none, .mov (.const (.int .i64 0))⟩] [1, 2])
  (.seq (.seq (.ops [⟨(some 9), none, .load (some 3) (.tmp 1)⟩,
      ⟨(some 10), none, .callF 16 [(.tmp 9)]⟩,
      ⟨(some 11), none, .bin .neq (.tmp 10) (.const (.int .i64 0))⟩] [1, 2, 11])
  (.cond (.tmp 11)
    (.seq (.ops [⟨(some 12), none, .build [(.int .i64 0), (.slice none 0 0)] []⟩,
        ⟨(some 13), none, .load (some 3) (.tmp 1)⟩,
        ⟨(some 14), none, .callF 16 [(.tmp 13)]⟩,
        ⟨none, none, .store 2 (.tmp 2) (.tmp 12)⟩,
        ⟨(some 3), none, .mov (.tmp 14)⟩] [2, 3])
    (.ret))
    (.skip)))
  (.seq (.ops [⟨(some 15), none, .fldA 0 (.tmp 1)⟩,
      ⟨(some 16), none, .load none (.tmp 15)⟩,
      ⟨(some 17), none, .build [(.int .i64 0), (.slice none 0 0)] [(0, 1, (.tmp 16))]⟩,
      ⟨(some 4), none, .alloc 34 [(1, (.int .i64 0)), (1, (.slice none 0 0))]⟩,
      ⟨none, none, .store 2 (.tmp 4) (.tmp 17)⟩] [1, 2, 4])
  (.seq (.seq (.ops [⟨(some 5), none, .mov (.const (.int .i64 0))⟩] [1, 2, 4, 5])
  (.block 0
    (.loop [1, 2, 4, 5]
      c14l1)))
  (.seq (.ops [⟨(some 7), none, .mov (.const (.slice none 0 0))⟩] [1, 2, 4, 7])
  (.seq (.seq (.ops [⟨(some 8), none, .mov (.const (.int .i64 0))⟩] [1, 2, 4, 7, 8])
  (.block 2
    (.loop [1, 2, 4, 7, 8]
      c14l0)))
  (.seq (.ops [⟨(some 68), none, .fldA 1 (.tmp 4)⟩,
      ⟨(some 69), none, .load none (.tmp 68)⟩,
      ⟨(some 70), none, .mov (.tmp 7)⟩,
      ⟨(some 71), none, .mkRow 22 1 1 [(.slice none 0 0)] [(0, 1, (.tmp 70))]⟩,
      ⟨(some 72), none, .app 22 1 24 (.tmp 69) (.tmp 71)⟩,
      ⟨(some 73), none, .fldA 1 (.tmp 4)⟩,
      ⟨none, none, .store 1 (.tmp 73) (.tmp 72)⟩] [2, 4])
  (.seq (.ops [⟨(some 74), none, .load (some 2) (.tmp 4)⟩,
      ⟨none, none, .store 2 (.tmp 2) (.tmp 74)⟩,
      ⟨(some 3), none, .mov (.const (.int .i64 0))⟩] [2, 3])
  (.ret)))))))),
  75, [(2, (some (some 2))), (3, none)], false⟩
theorem ok14 : FunOK Tryd.prog 14 c14 := ⟨⟨Tryd.f14, _, c14.code, Tryd.func14, rfl, by kernel_rfl, rfl, by kernel_rfl, by kernel_rfl⟩⟩
/- raddle/peg.Check -/
def c15 : AFun := ⟨
  .seq (.ops [⟨(some 1), none, .box 24 (.tmp 0)⟩,
      ⟨(some 2), none, .mov (.const (.int .i64 0))⟩] [1])
  (.seq (.seq (.ops [⟨(some 4), none, .load (some 3) (.tmp 1)⟩,
      ⟨(some 5), none, .callF 43 [(.tmp 4)]⟩,
      ⟨(some 3), none, .mov (.tmp 5)⟩] [1, 3])
  (.seq (.ops [⟨(some 6), none, .mov (.tmp 3)⟩,
      ⟨(some 7), none, .bin .neq (.tmp 6) (.const (.int .i64 0))⟩] [1, 3, 7])
  (.cond (.tmp 7)
    (.seq (.ops [⟨(some 8), none, .mov (.tmp 3)⟩,
        ⟨(some 2), none, .mov (.tmp 8)⟩] [2])
    (.ret))
    (.skip))))
  (.seq (.seq (.ops [⟨(some 9), none, .fldA 0 (.tmp 1)⟩,
      ⟨(some 10), none, .load none (.tmp 9)⟩,
      ⟨(some 11), none, .bin .gtr (.tmp 10) (.const (.int .i64 40))⟩] [11])
  (.cond (.tmp 11)
    (.seq (.ops [⟨(some 2), none, .mov (.const (.int .i64 8))⟩] [2])
    (.ret))
    (.skip)))
  (.seq (.ops [⟨(some 2), none, .mov (.const (.int .i64 0))⟩] [2])
  (.ret)))),
  12, [(2, none)], true⟩
theorem ok15 : FunOK Tryd.prog 15 c15 := ⟨⟨Tryd.f15, _, c15.code, Tryd.func15, rfl, by kernel_rfl, rfl, by kernel_rfl, by kernel_rfl⟩⟩
/- raddle/raddleref18.Check -/
def c16 : AFun := ⟨
  .seq (.ops [⟨(some 1), none, .box 24 (.tmp 0)⟩,
      ⟨(some 2), none, .mov (.const (.int .i64 0))⟩] [1])
  (.seq (.seq (.ops [⟨(some 3), none, .load (some 3) (.tmp 1)⟩,
      ⟨(some 4), none, .callF 44 [(.tmp 3)]⟩,
      ⟨(some 5), none, .bin .neq (.tmp 4) (.const (.int .i64 0))⟩] [1, 5])
  (.cond (.tmp 5)
    (.seq (.ops [⟨(some 6), none, .load (some 3) (.tmp 1)⟩,
        ⟨(some 7), none, .callF 44 [(.tmp 6)]⟩,
        ⟨(some 2), none, .mov (.tmp 7)⟩] [2])
    (.ret))
    (.skip)))
  (.seq (.seq (.ops [⟨(some 8), none, .fldA 0 (.tmp 1)⟩,
      ⟨(some 9), none, .load none (.tmp 8)⟩,
      ⟨(some 10), none, .bin .gtr (.tmp 9) (.const (.int .i64 40))⟩] [10])
  (.cond (.tmp 10)
    (.seq (.ops [⟨(some 2), none, .mov (.const (.int .i64 8))⟩] [2])
    (.ret))
    (.skip)))
  (.seq (.ops [⟨(some 2), none, .mov (.const (.int .i64 0))⟩] [2])
  (.ret)))),
  11, [(2, none)], true⟩
theorem ok16 : FunOK Tryd.prog 16 c16 := ⟨⟨Tryd.f16, _, c16.code, Tryd.func16, rfl, by kernel_rfl, rfl, by kernel_rfl, by kernel_rfl⟩⟩
/- raddle/raddleref18.Same -/
def c17l0 : AC :=
  .seq (.seq (.ops [⟨(some 41), none, .mov (.tmp 6)⟩,
                ⟨(some 42), none, .fldA 1 (.tmp 2)⟩,
                ⟨(some 43), none, .load none (.tmp 42)⟩,
                ⟨(some 44), none, .mov (.tmp 5)⟩,
                ⟨(some 45), none, .idxS 1 (.tmp 43) (.tmp 44)⟩,
                ⟨(some 46), none, .load none (.tmp 45)⟩,
                ⟨(some 47), none, .len false (.tmp 46)⟩,
                ⟨(some 48), none, .bin .lss (.tmp 41) (.tmp 47)⟩] [2, 3, 5, 6, 48])
            (.cond (.tmp 48)
              (.skip)
              (.exit 2)))
            (.seq (.block 3
              (.seq (.draw [⟨(some 51), none, .fldA 1 (.tmp 2)⟩,
                  ⟨(some 52), none, .load none (.tmp 51)⟩,
                  ⟨(some 53), none, .mov (.tmp 5)⟩,
                  ⟨(some 54), none, .idxS 1 (.tmp 52) (.tmp 53)⟩,
                  ⟨(some 55), none, .load none (.tmp 54)⟩,
                  ⟨(some 56), none, .mov (.tmp 6)⟩,
                  ⟨(some 57), none, .idxS 1 (.tmp 55) (.tmp 56)⟩,
                  ⟨(some 58), none, .load none (.tmp 57)⟩,
                  ⟨(some 59), none, .fldA 1 (.tmp 3)⟩,
                  ⟨(some 60), none, .load none (.tmp 59)⟩,
                  ⟨(some 61), none, .mov (.tmp 5)⟩,
                  ⟨(some 62), none, .idxS 1 (.tmp 60) (.tmp 61)⟩,
                  ⟨(some 63), none, .load none (.tmp 62)⟩,
                  ⟨(some 64), none, .mov (.tmp 6)⟩,
                  ⟨(some 65), none, .idxS 1 (.tmp 63) (.tmp 64)⟩,
                  ⟨(some 66), none, .load none (.tmp 65)⟩] [⟨(some 67), none, .eqB true (.tmp 58) (.tmp 66)⟩] [[], [], [], [], [], [], [], [], [], [], [], [], [], [], [], []] [2, 3, 5, 6, 67])
              (.cond (.tmp 67)
                (.seq (.ops [⟨(some 4), none, .mov (.const (.bool false))⟩] [4])
                (.ret))
                (.skip))))
            (.ops [⟨(some 49), none, .mov (.tmp 6)⟩,
                ⟨(some 50), none, .bin .add (.tmp 49) (.const (.int .i64 1))⟩,
                ⟨(some 6), none, .mov (.tmp 50)⟩] [2, 3, 5, 6]))
def c17l1 : AC :=
  .seq (.seq (.ops [⟨(some 21), none, .mov (.tmp 5)⟩,
          ⟨(some 22), none, .fldA 1 (.tmp 2)⟩,
          ⟨(some 23), none, .load none (.tmp 22)⟩,
          ⟨(some 24), none, .len false (.tmp 23)⟩,
          ⟨(some 25), none, .bin .lss (.tmp 21) (.tmp 24)⟩] [2, 3, 5, 25])
      (.cond (.tmp 25)
        (.skip)
        (.exit 0)))
      (.seq (.block 1
        (.seq (.seq (.draw [⟨(some 28), none, .fldA 1 (.tmp 2)⟩,
            ⟨(some 29), none, .load none (.tmp 28)⟩,
            ⟨(some 30), none, .mov (.tmp 5)⟩,
            ⟨(some 31), none, .idxS 1 (.tmp 29) (.tmp 30)⟩,
            ⟨(some 32), none, .load none (.tmp 31)⟩,
            ⟨(some 33), none, .len false (.tmp 32)⟩,
            ⟨(some 34), none, .fldA 1 (.tmp 3)⟩,
            ⟨(some 35), none, .load none (.tmp 34)⟩,
            ⟨(some 36), none, .mov (.tmp 5)⟩,
            ⟨(some 37), none, .idxS 1 (.tmp 35) (.tmp 36)⟩,
            ⟨(some 38), none, .load none (.tmp 37)⟩,
            ⟨(some 39), none, .len false (.tmp 38)⟩] [⟨(some 40), none, .bin .neq (.tmp 33) (.tmp 39)⟩] [[], [], [], [], [], [], [], [], [], [], [], []] [2, 3, 5, 40])
        (.cond (.tmp 40)
          (.seq (.ops [⟨(some 4), none, .mov (.const (.bool false))⟩] [4])
          (.ret))
          (.skip)))
        (.seq (.ops [⟨(some 6), none, .mov (.const (.int .i64 0))⟩] [2, 3, 5, 6])
        (.block 2
          (.loop [2, 3, 5, 6]
            c17l0)))))
      (.ops [⟨(some 26), none, .mov (.tmp 5)⟩,
          ⟨(some 27), none, .bin .add (.tmp 26) (.const (.int .i64 1))⟩,
          ⟨(some 5), none, .mov (.tmp 27)⟩] [2, 3, 5]))
def c17 : AFun := ⟨
  .seq (.ops [⟨(some 2), none, .box 34 (.tmp 0)⟩,
      ⟨(some 3), none, .box 34 (.tmp 1)⟩,
      ⟨(some 4), none, .mov (.const (.bool false))⟩] [2, 3])
  (.seq (.seq (.ops [⟨(some 7), none, .fldA 0 (.tmp 2)⟩,
      ⟨(some 8), none, .load none (.tmp 7)⟩,
      ⟨(some 9), none, .fldA 0 (.tmp 3)⟩,
      ⟨(some 10), none, .load none (.tmp 9)⟩,
      ⟨(some 11), none, .bin .neq (.tmp 8) (.tmp 10)⟩,
      ⟨(some 12), none, .mov (.tmp 11)⟩,
      ⟨(some 13), (some (12, false)), .fldA 1 (.tmp 2)⟩,
      ⟨(some 14), (some (12, false)), .load none (.tmp 13)⟩,
      ⟨(some 15), (some (12, false)), .len false (.tmp 14)⟩,
      ⟨(some 16), (some (12, false)), .fldA 1 (.tmp 3)⟩,
      ⟨(some 17), (some (12, false)), .load none (.tmp 16)⟩,
      ⟨(some 18), (some (12, false)), .len false (.tmp 17)⟩,
      ⟨(some 19), (some (12, false)), .bin .neq (.tmp 15) (.tmp 18)⟩,
      ⟨(some 20), none, .pick (.tmp 12) (.const (.bool true)) (.tmp 19)⟩] [2, 3, 20])
  (.cond (.tmp 20)
    (.seq (.ops [⟨(some 4), none, .mov (.const (.bool false))⟩] [4])
    (.ret))
    (.skip)))
  (.seq (.seq (.ops [⟨(some 5), none, .mov (.const (.int .i64 0))⟩] [2, 3, 5])
  (.block 0
    (.loop [2, 3, 5]
      c17l1)))
  (.seq (.ops [⟨(some 4), none, .mov (.const (.bool true))⟩] [4])
  (.ret)))),
  68, [(4, none)], true⟩
theorem ok17 : FunOK Tryd.prog 17 c17 := ⟨⟨Tryd.f17, _, c17.code, Tryd.func17, rfl, by kernel_rfl, rfl, by kernel_rfl, by kernel_rfl⟩⟩
/- raddle/raddleref01.Same -/
def c18l0 : AC :=
  .seq (.seq (.ops [⟨(some 27), none, .mov (.tmp 5)⟩,
          ⟨(some 28), none, .fldA 2 (.tmp 2)⟩,
          ⟨(some 29), none, .load none (.tmp 28)⟩,
          ⟨(some 30), none, .len false (.tmp 29)⟩,
          ⟨(some 31), none, .bin .lss (.tmp 27) (.tmp 30)⟩] [2, 3, 5, 31])
      (.cond (.tmp 31)
        (.skip)
        (.exit 0)))
      (.seq (.block 1
        (.seq (.draw [⟨(some 34), none, .fldA 2 (.tmp 2)⟩,
            ⟨(some 35), none, .load none (.tmp 34)⟩,
            ⟨(some 36), none, .mov (.tmp 5)⟩,
            ⟨(some 37), none, .idxS 1 (.tmp 35) (.tmp 36)⟩,
            ⟨(some 38), none, .load none (.tmp 37)⟩,
            ⟨(some 39), none, .fldA 2 (.tmp 3)⟩,
            ⟨(some 40), none, .load none (.tmp 39)⟩,
            ⟨(some 41), none, .mov (.tmp 5)⟩,
            ⟨(some 42), none, .idxS 1 (.tmp 40) (.tmp 41)⟩,
            ⟨(some 43), none, .load none (.tmp 42)⟩] [⟨(some 44), none, .eqB true (.tmp 38) (.tmp 43)⟩] [[], [], [], [], [], [], [], [], [], []] [2, 3, 5, 44])
        (.cond (.tmp 44)
          (.seq (.ops [⟨(some 4), none, .mov (.const (.bool false))⟩] [4])
          (.ret))
          (.skip))))
      (.ops [⟨(some 32), none, .mov (.tmp 5)⟩,
          ⟨(some 33), none, .bin .add (.tmp 32) (.const (.int .i64 1))⟩,
          ⟨(some 5), none, .mov (.tmp 33)⟩] [2, 3, 5]))
def c18 : AFun := ⟨
  .seq (.ops [⟨(some 2), none, .box 24 (.tmp 0)⟩,
      ⟨(some 3), none, .box 24 (.tmp 1)⟩,
      ⟨(some 4), none, .mov (.const (.bool false))⟩] [2, 3])
  (.seq (.seq (.ops [⟨(some 6), none, .fldA 0 (.tmp 2)⟩,
      ⟨(some 7), none, .load none (.tmp 6)⟩,
      ⟨(some 8), none, .fldA 0 (.tmp 3)⟩,
      ⟨(some 9), none, .load none (.tmp 8)⟩,
      ⟨(some 10), none, .bin .neq (.tmp 7) (.tmp 9)⟩,
      ⟨(some 11), none, .mov (.tmp 10)⟩,
      ⟨(some 12), (some (11, false)), .fldA 1 (.tmp 2)⟩,
      ⟨(some 13), (some (11, false)), .load none (.tmp 12)⟩,
      ⟨(some 14), (some (11, false)), .fldA 1 (.tmp 3)⟩,
      ⟨(some 15), (some (11, false)), .load none (.tmp 14)⟩,
      ⟨(some 16), (some (11, false)), .bin .neq (.tmp 13) (.tmp 15)⟩,
      ⟨(some 17), none, .pick (.tmp 11) (.const (.bool true)) (.tmp 16)⟩,
      ⟨(some 18), none, .mov (.tmp 17)⟩,
      ⟨(some 19), (some (18, false)), .fldA 2 (.tmp 2)⟩,
      ⟨(some 20), (some (18, false)), .load none (.tmp 19)⟩,
      ⟨(some 21), (some (18, false)), .len false (.tmp 20)⟩,
      ⟨(some 22), (some (18, false)), .fldA 2 (.tmp 3)⟩,
      ⟨(some 23), (some (18, false)), .load none (.tmp 22)⟩,
      ⟨(some 24), (some (18, false)), .len false (.tmp 23)⟩,
      ⟨(some 25), (some (18, false)), .bin .neq (.tmp 21) (.tmp 24)⟩,
      ⟨(some 26), none, .pick (.tmp 18) (.const (.bool true)) (.tmp 25)⟩] [2, 3, 26])
  (.cond (.tmp 26)
    (.seq (.ops [⟨(some 4), none, .mov (.const (.bool false))⟩] [4])
    (.ret))
    (.skip)))
  (.seq (.seq (.ops [⟨(some 5), none, .mov (.const (.int .i64 0))⟩] [2, 3, 5])
  (.block 0
    (.loop [2, 3, 5]
      c18l0)))
  (.seq (.ops [⟨(some 4), none, .mov (.const (.bool true))⟩] [4])
  (.ret)))),
  45, [(4, none)], true⟩
theorem ok18 : FunOK Tryd.prog 18 c18 := ⟨⟨Tryd.f18, _, c18.code, Tryd.func18, rfl, by kernel_rfl, rfl, by kernel_rfl, by kernel_rfl⟩⟩
/- raddle/raddlelaw18.alive -/
def c19 : AFun := ⟨
  .seq (.ops [⟨(some 0), none, .mov (.const (.bool false))⟩] [])
  (.seq (.ops [⟨(some 11), none, .callF 45 []⟩,
      ⟨(some 12), none, .callF 11 [(.tmp 11)]⟩,
      ⟨(some 10), none, .mov (.tmp 12)⟩,
      ⟨(some 13), none, .ext (.tmp 10) 0⟩,
      ⟨(some 14), none, .ext (.tmp 10) 1⟩,
      ⟨(some 1), none, .mov (.tmp 13)⟩,
      ⟨(some 2), none, .mov (.tmp 14)⟩] [1, 2])
  (.seq (.ops [⟨(some 16), none, .callF 45 []⟩,
      ⟨(some 17), none, .callF 13 [(.tmp 16)]⟩,
      ⟨(some 15), none, .mov (.tmp 17)⟩,
      ⟨(some 18), none, .ext (.tmp 15) 0⟩,
      ⟨(some 19), none, .ext (.tmp 15) 1⟩,
      ⟨(some 3), none, .alloc 34 [(1, (.int .i64 0)), (1, (.slice none 0 0))]⟩,
      ⟨none, none, .store 2 (.tmp 3) (.tmp 18)⟩,
      ⟨(some 4), none, .mov (.tmp 19)⟩] [1, 2, 3, 4])
  (.seq (.ops [⟨(some 21), none, .load (some 2) (.tmp 3)⟩,
      ⟨(some 22), none, .callF 29 [(.tmp 21)]⟩,
      ⟨(some 20), none, .mov (.tmp 22)⟩,
      ⟨(some 23), none, .ext (.tmp 20) 0⟩,
      ⟨(some 24), none, .ext (.tmp 20) 1⟩,
      ⟨(some 5), none, .mov (.tmp 23)⟩,
      ⟨(some 6), none, .mov (.tmp 24)⟩] [1, 2, 3, 4, 5, 6])
  (.seq (.seq (.ops [⟨(some 25), none, .mov (.tmp 2)⟩,
      ⟨(some 26), none, .bin .neq (.tmp 25) (.const (.int .i64 0))⟩,
      ⟨(some 27), none, .mov (.tmp 26)⟩,
      ⟨(some 28), (some (27, false)), .mov (.tmp 4)⟩,
      ⟨(some 29), (some (27, false)), .bin .neq (.tmp 28) (.const (.int .i64 0))⟩,
      ⟨(some 30), none, .pick (.tmp 27) (.const (.bool true)) (.tmp 29)⟩,
      ⟨(some 31), none, .mov (.tmp 30)⟩,
      ⟨(some 32), (some (31, false)), .mov (.tmp 6)⟩,
      ⟨(some 33), (some (31, false)), .bin .neq (.tmp 32) (.const (.int .i64 0))⟩,
      ⟨(some 34), none, .pick (.tmp 31) (.const (.bool true)) (.tmp 33)⟩,
      ⟨(some 35), none, .mov (.tmp 34)⟩,
      ⟨(some 36), (some (35, false)), .mov (.tmp 1)⟩,
      ⟨(some 37), (some (35, false)), .bin .neq (.tmp 36) (.const (.string ⟨#[49, 10, 49, 32, 50, 10]⟩))⟩,
      ⟨(some 38), none, .pick (.tmp 35) (.const (.bool true)) (.tmp 37)⟩,
      ⟨(some 39), none, .mov (.tmp 38)⟩,
      ⟨(some 40), (some (39, false)), .mov (.tmp 5)⟩,
      ⟨(some 41), (some (39, false)), .bin .neq (.tmp 40) (.const (.string ⟨#[111, 46, 111, 10, 111, 111, 46, 10, 46, 111, 111, 10]⟩))⟩,
      ⟨(some 42), none, .pick (.tmp 39) (.const (.bool true)) (.tmp 41)⟩,
      ⟨(some 43), none, .mov (.tmp 42)⟩,
      ⟨(some 44), (some (43, false)), .load (some 2) (.tmp 3)⟩,
      ⟨(some 45), (some (43, false)), .callF 21 [(.tmp 44)]⟩,
      ⟨(some 46), (some (43, false)), .bin .neq (.tmp 45) (.const (.int .i64 0))⟩,
      ⟨(some 47), none, .pick (.tmp 43) (.const (.bool true)) (.tmp 46)⟩] [3, 47])
  (.cond (.tmp 47)
    (.seq (.ops [⟨(some 0), none, .mov (.const (.bool false))⟩] [0])
    (.ret))
    (.skip)))
  (.seq (.draw [⟨(some 48), none, .fldA 1 (.tmp 3)⟩,
      ⟨(some 49), none, .load none (.tmp 48)⟩,
      ⟨(some 50), none, .idxS 1 (.tmp 49) (.const (.int .i64 0))⟩,
      ⟨(some 51), none, .load none (.tmp 50)⟩,
      ⟨(some 52), none, .fldA 1 (.tmp 3)⟩,
      ⟨(some 53), none, .load none (.tmp 52)⟩,
      ⟨(some 54), none, .idxS 1 (.tmp 53) (.const (.int .i64 0))⟩,
      ⟨(some 55), none, .load none (.tmp 54)⟩,
      ⟨(some 56), none, .idxS 1 (.tmp 55) (.const (.int .i64 1))⟩,
      ⟨(some 57), none, .load none (.tmp 56)⟩,
      ⟨(some 58), none, .un .not (.tmp 57)⟩] [⟨(some 59), none, .idxS 1 (.tmp 51) (.const (.int .i64 1))⟩,
      ⟨none, none, .store 1 (.tmp 59) (.tmp 58)⟩] [[], [], [], [], [], [], [], [], [], [], []] [3])
  (.seq (.ops [⟨(some 61), none, .load (some 2) (.tmp 3)⟩,
      ⟨(some 62), none, .callF 30 [(.tmp 61)]⟩,
      ⟨(some 60), none, .mov (.tmp 62)⟩,
      ⟨(some 63), none, .ext (.tmp 60) 0⟩,
      ⟨(some 64), none, .ext (.tmp 60) 1⟩,
      ⟨(some 65), none, .ext (.tmp 60) 2⟩,
      ⟨(some 7), none, .mov (.tmp 63)⟩,
      ⟨(some 8), none, .mov (.tmp 64)⟩,
      ⟨(some 9), none, .mov (.tmp 65)⟩] [7, 8, 9])
  (.seq (.ops [⟨(some 66), none, .mov (.tmp 9)⟩,
      ⟨(some 67), none, .bin .eql (.tmp 66) (.const (.int .i64 0))⟩,
      ⟨(some 68), none, .mov (.tmp 67)⟩,
      ⟨(some 69), (some (68, true)), .mov (.tmp 7)⟩,
      ⟨(some 70), (some (68, true)), .mkRow 3 1 1 [(.int .i64 0)] [(0, 1, (.const (.int .i64 0)))]⟩,
      ⟨(some 71), (some (68, true)), .callF 46 [(.tmp 69), (.tmp 70)]⟩,
      ⟨(some 72), none, .pick (.tmp 68) (.tmp 71) (.const (.bool false))⟩,
      ⟨(some 73), none, .mov (.tmp 72)⟩,
      ⟨(some 74), (some (73, true)), .mov (.tmp 8)⟩,
      ⟨(some 75), (some (73, true)), .mkRow 3 1 1 [(.int .i64 0)] [(0, 1, (.const (.int .i64 1)))]⟩,
      ⟨(some 76), (some (73, true)), .callF 46 [(.tmp 74), (.tmp 75)]⟩,
      ⟨(some 77), none, .pick (.tmp 73) (.tmp 76) (.const (.bool false))⟩,
      ⟨(some 0), none, .mov (.tmp 77)⟩] [0])
  (.ret)))))))),
  78, [(0, none)], true⟩
theorem ok19 : FunOK Tryd.prog 19 c19 := ⟨⟨Tryd.f19, _, c19.code, Tryd.func19, rfl, by kernel_rfl, rfl, by kernel_rfl, by kernel_rfl⟩⟩
/- raddle/raddlelaw18.fit -/
def c20 : AFun := ⟨
  .seq (.ops [⟨(some 1), none, .box 24 (.tmp 0)⟩,
      ⟨(some 2), none, .mov (.const (.bool false))⟩] [1])
  (.seq (.ops [⟨(some 3), none, .load (some 3) (.tmp 1)⟩,
      ⟨(some 4), none, .callF 9 [(.tmp 3)]⟩,
      ⟨(some 5), none, .un .not (.tmp 4)⟩,
      ⟨(some 6), none, .mov (.tmp 5)⟩,
      ⟨(some 7), (some (6, true)), .load (some 3) (.tmp 1)⟩,
      ⟨(some 8), (some (6, true)), .callF 16 [(.tmp 7)]⟩,
      ⟨(some 9), (some (6, true)), .bin .eql (.tmp 8) (.const (.int .i64 0))⟩,
      ⟨(some 10), none, .pick (.tmp 6) (.tmp 9) (.const (.bool false))⟩,
      ⟨(some 2), none, .mov (.tmp 10)⟩] [2])
  (.ret)),
  11, [(2, none)], true⟩
theorem ok20 : FunOK Tryd.prog 20 c20 := ⟨⟨Tryd.f20, _, c20.code, Tryd.func20, rfl, by kernel_rfl, rfl, by kernel_rfl, by kernel_rfl⟩⟩
/- raddle/raddleref18.Chain -/
def c21l0 : AC :=
  .seq (.seq (.ops [⟨(some 24), none, .mov (.tmp 3)⟩,
          ⟨(some 25), none, .fldA 1 (.tmp 1)⟩,
          ⟨(some 26), none, .load none (.tmp 25)⟩,
          ⟨(some 27), none, .len false (.tmp 26)⟩,
          ⟨(some 28), none, .bin .lss (.tmp 24) (.tmp 27)⟩] [1, 3, 28])
      (.cond (.tmp 28)
        (.skip)
        (.exit 0)))
      (.seq (.block 1
        (.seq (.draw [⟨(some 31), none, .fldA 1 (.tmp 1)⟩,
            ⟨(some 32), none, .load none (.tmp 31)⟩,
            ⟨(some 33), none, .mov (.tmp 3)⟩,
            ⟨(some 34), none, .idxS 1 (.tmp 32) (.tmp 33)⟩,
            ⟨(some 35), none, .load none (.tmp 34)⟩,
            ⟨(some 36), none, .len false (.tmp 35)⟩,
            ⟨(some 37), none, .fldA 0 (.tmp 1)⟩,
            ⟨(some 38), none, .load none (.tmp 37)⟩,
            ⟨(some 39), none, .bin .add (.tmp 38) (.const (.int .i64 1))⟩] [⟨(some 40), none, .bin .neq (.tmp 36) (.tmp 39)⟩] [[], [], [], [], [], [], [], [], []] [1, 3, 40])
        (.cond (.tmp 40)
          (.seq (.ops [⟨(some 2), none, .mov (.const (.int .i64 8))⟩] [2])
          (.ret))
          (.skip))))
      (.ops [⟨(some 29), none, .mov (.tmp 3)⟩,
          ⟨(some 30), none, .bin .add (.tmp 29) (.const (.int .i64 1))⟩,
          ⟨(some 3), none, .mov (.tmp 30)⟩] [1, 3]))
def c21 : AFun := ⟨
  .seq (.ops [⟨(some 1), none, .box 34 (.tmp 0)⟩,
      ⟨(some 2), none, .mov (.const (.int .i64 0))⟩] [1])
  (.seq (.seq (.ops [⟨(some 4), none, .fldA 0 (.tmp 1)⟩,
      ⟨(some 5), none, .load none (.tmp 4)⟩,
      ⟨(some 6), none, .bin .lss (.tmp 5) (.const (.int .i64 1))⟩,
      ⟨(some 7), none, .mov (.tmp 6)⟩,
      ⟨(some 8), (some (7, false)), .fldA 0 (.tmp 1)⟩,
      ⟨(some 9), (some (7, false)), .load none (.tmp 8)⟩,
      ⟨(some 10), (some (7, false)), .bin .gtr (.tmp 9) (.const (.int .i64 40))⟩,
      ⟨(some 11), none, .pick (.tmp 7) (.const (.bool true)) (.tmp 10)⟩,
      ⟨(some 12), none, .mov (.tmp 11)⟩,
      ⟨(some 13), (some (12, false)), .fldA 1 (.tmp 1)⟩,
      ⟨(some 14), (some (12, false)), .load none (.tmp 13)⟩,
      ⟨(some 15), (some (12, false)), .len false (.tmp 14)⟩,
      ⟨(some 16), (some (12, false)), .bin .lss (.tmp 15) (.const (.int .i64 2))⟩,
      ⟨(some 17), none, .pick (.tmp 12) (.const (.bool true)) (.tmp 16)⟩,
      ⟨(some 18), none, .mov (.tmp 17)⟩,
      ⟨(some 19), (some (18, false)), .fldA 1 (.tmp 1)⟩,
      ⟨(some 20), (some (18, false)), .load none (.tmp 19)⟩,
      ⟨(some 21), (some (18, false)), .len false (.tmp 20)⟩,
      ⟨(some 22), (some (18, false)), .bin .gtr (.tmp 21) (.const (.int .i64 65))⟩,
      ⟨(some 23), none, .pick (.tmp 18) (.const (.bool true)) (.tmp 22)⟩] [1, 23])
  (.cond (.tmp 23)
    (.seq (.ops [⟨(some 2), none, .mov (.const (.int .i64 8))⟩] [2])
    (.ret))
    (.skip)))
  (.seq (.seq (.ops [⟨(some 3), none, .mov (.const (.int .i64 0))⟩] [1, 3])
  (.block 0
    (.loop [1, 3]
      c21l0)))
  (.seq (.ops [⟨(some 2), none, .mov (.const (.int .i64 0))⟩] [2])
  (.ret)))),
  41, [(2, none)], true⟩
theorem ok21 : FunOK Tryd.prog 21 c21 := ⟨⟨Tryd.f21, _, c21.code, Tryd.func21, rfl, by kernel_rfl, rfl, by kernel_rfl, by kernel_rfl⟩⟩
/- raddle/raddleref18.Twin -/
def c22l0 : AC :=
  .seq (.seq (.ops [⟨(some 8), none, .mov (.tmp 4)⟩,
          ⟨(some 9), none, .fldA 1 (.tmp 1)⟩,
          ⟨(some 10), none, .load none (.tmp 9)⟩,
          ⟨(some 11), none, .len false (.tmp 10)⟩,
          ⟨(some 12), none, .bin .lss (.tmp 8) (.tmp 11)⟩] [1, 2, 3, 4, 12])
      (.cond (.tmp 12)
        (.skip)
        (.exit 0)))
      (.seq (.block 1
        (.draw [⟨(some 15), none, .fldA 1 (.tmp 3)⟩,
            ⟨(some 16), none, .load none (.tmp 15)⟩,
            ⟨(some 17), none, .mkRow 4 1 0 [(.bool false)] []⟩,
            ⟨(some 18), none, .fldA 1 (.tmp 1)⟩,
            ⟨(some 19), none, .load none (.tmp 18)⟩,
            ⟨(some 20), none, .mov (.tmp 4)⟩,
            ⟨(some 21), none, .idxS 1 (.tmp 19) (.tmp 20)⟩,
            ⟨(some 22), none, .load none (.tmp 21)⟩,
            ⟨(some 23), none, .app 4 1 1 (.tmp 17) (.tmp 22)⟩,
            ⟨(some 24), none, .mkRow 22 1 1 [(.slice none 0 0)] [(0, 1, (.tmp 23))]⟩] [⟨(some 25), none, .app 22 1 24 (.tmp 16) (.tmp 24)⟩,
            ⟨(some 26), none, .fldA 1 (.tmp 3)⟩,
            ⟨none, none, .store 1 (.tmp 26) (.tmp 25)⟩] [[], [], [], [false, false, false], [true, false, false, false], [false, false, false, false, false], [true, true, true, false, false, false], [true, true, true, true, false, false, false], [], []] [1, 2, 3, 4]))
      (.ops [⟨(some 13), none, .mov (.tmp 4)⟩,
          ⟨(some 14), none, .bin .add (.tmp 13) (.const (.int .i64 1))⟩,
          ⟨(some 4), none, .mov (.tmp 14)⟩] [1, 2, 3, 4]))
def c22 : AFun := ⟨
  .seq (.ops [⟨(some 1), none, .box 34 (.tmp 0)⟩,
      ⟨(some 2), none, .alloc 34 [(1, (.int .i64 0)), (1, (.slice none 0 0))]⟩] [1, 2])
  (.seq (.ops [⟨(some 5), none, .fldA 0 (.tmp 1)⟩,
      ⟨(some 6), none, .load none (.tmp 5)⟩,
      ⟨(some 7), none, .build [(.int .i64 0), (.slice none 0 0)] [(0, 1, (.tmp 6))]⟩,
      ⟨(some 3), none, .alloc 34 [(1, (.int .i64 0)), (1, (.slice none 0 0))]⟩,
      ⟨none, none, .store 2 (.tmp 3) (.tmp 7)⟩] [1, 2, 3])
  (.seq (.seq (.ops [⟨(some 4), none, .mov (.const (.int .i64 0))⟩] [1, 2, 3, 4])
  (.block 0
    (.loop [1, 2, 3, 4]
      c22l0)))
  (.seq (.ops [⟨(some 27), none, .load (some 2) (.tmp 3)⟩,
      ⟨none, none, .store 2 (.tmp 2) (.tmp 27)⟩] [2])
  (.ret)))),
  28, [(2, (some (some 2)))], false⟩
theorem ok22 : FunOK Tryd.prog 22 c22 := ⟨⟨Tryd.f22, _, c22.code, Tryd.func22, rfl, by kernel_rfl, rfl, by kernel_rfl, by kernel_rfl⟩⟩
/- raddle/peg.Mend -/
def c23l0 : AC :=
  .seq (.ops [⟨(some 30), none, .bin .lss (.tmp 29) (.tmp 28)⟩] [2, 3, 6, 7, 8, 27, 28, 29, 30])
      (.seq (.cond (.tmp 30)
        (.skip)
        (.exit 0))
      (.seq (.block 1
        (.seq (.ops [⟨(some 31), none, .idxS 1 (.tmp 27) (.tmp 29)⟩,
            ⟨(some 32), none, .load none (.tmp 31)⟩,
            ⟨(some 10), none, .mov (.tmp 32)⟩] [2, 3, 6, 7, 8, 10, 27, 28, 29])
        (.seq (.ops [⟨(some 33), none, .mov (.tmp 10)⟩,
            ⟨(some 34), none, .len false (.tmp 33)⟩,
            ⟨(some 35), none, .mkSlice 4 1 1 [(.bool false)] (.tmp 34) (.tmp 34)⟩,
            ⟨(some 11), none, .mov (.tmp 35)⟩] [2, 3, 6, 7, 8, 10, 11, 27, 28, 29])
        (.seq (.ops [⟨(some 36), none, .mov (.tmp 11)⟩,
            ⟨(some 37), none, .mov (.tmp 10)⟩,
            ⟨(some 38), none, .copy 1 (.tmp 36) (.tmp 37)⟩] [2, 3, 6, 7, 8, 11, 27, 28, 29])
        (.ops [⟨(some 39), none, .fldA 1 (.tmp 8)⟩,
            ⟨(some 40), none, .load none (.tmp 39)⟩,
            ⟨(some 41), none, .mov (.tmp 11)⟩,
            ⟨(some 42), none, .mkRow 22 1 1 [(.slice none 0 0)] [(0, 1, (.tmp 41))]⟩,
            ⟨(some 43), none, .app 22 1 24 (.tmp 40) (.tmp 42)⟩,
            ⟨(some 44), none, .fldA 1 (.tmp 8)⟩,
            ⟨none, none, .store 1 (.tmp 44) (.tmp 43)⟩] [2, 3, 6, 7, 8, 27, 28, 29])))))
      (.ops [⟨(some 45), none, .bin .add (.tmp 29) (.const (.int .i64 1))⟩,
          ⟨(some 29), none, .mov (.tmp 45)⟩] [2, 3, 6, 7, 8, 27, 28, 29])))
def c23 : AFun := ⟨
  .seq (.ops [⟨(some 1), none, .box 34 (.tmp 0)⟩,
      ⟨(some 2), none, .alloc 34 [(1, (.int .i64 0)), (1, (.slice none 0 0))]⟩,
      ⟨(some 3), none, .alloc 47 [(2, (.int .i64 0))]⟩,
      ⟨(some 4), none, .mov (.const (.bool false))⟩,
      ⟨(some 5), none, .mov (.const (.int .i64 0))⟩] [1, 2, 3])
  (.seq (.ops [⟨(some 13), none, .load (some 2) (.tmp 1)⟩,
      ⟨(some 14), none, .callF 30 [(.tmp 13)]⟩,
      ⟨(some 12), none, .mov (.tmp 14)⟩,
      ⟨(some 15), none, .ext (.tmp 12) 0⟩,
      ⟨(some 16), none, .ext (.tmp 12) 1⟩,
      ⟨(some 17), none, .ext (.tmp 12) 2⟩,
      ⟨(some 6), none, .mov (.tmp 15)⟩,
      ⟨(some 7), none, .mov (.tmp 16)⟩,
      ⟨(some 5), none, .mov (.tmp 17)⟩] [1, 2, 3, 5, 6, 7])
  (.seq (.seq (.ops [⟨(some 18), none, .mov (.tmp 5)⟩,
      ⟨(some 19), none, .bin .neq (.tmp 18) (.const (.int .i64 0))⟩] [1, 2, 3, 5, 6, 7, 19])
  (.cond (.tmp 19)
    (.seq (.ops [⟨(some 20), none, .build [(.int .i64 0), (.slice none 0 0)] []⟩,
        ⟨(some 21), none, .build [(.int .i64 0), (.int .i64 0)] []⟩,
        ⟨(some 22), none, .mov (.tmp 5)⟩,
        ⟨none, none, .store 2 (.tmp 2) (.tmp 20)⟩,
        ⟨none, none, .store 2 (.tmp 3) (.tmp 21)⟩,
        ⟨(some 4), none, .mov (.const (.bool false))⟩,
        ⟨(some 5), none, .mov (.tmp 22)⟩] [2, 3, 4, 5])
    (.ret))
    (.skip)))
  (.seq (.ops [⟨(some 23), none, .fldA 0 (.tmp 1)⟩,
      ⟨(some 24), none, .load none (.tmp 23)⟩,
      ⟨(some 25), none, .build [(.int .i64 0), (.slice none 0 0)] [(0, 1, (.tmp 24))]⟩,
      ⟨(some 8), none, .alloc 34 [(1, (.int .i64 0)), (1, (.slice none 0 0))]⟩,
      ⟨none, none, .store 2 (.tmp 8) (.tmp 25)⟩] [1, 2, 3, 6, 7, 8])
  (.seq (.seq (.ops [⟨(some 26), none, .fldA 1 (.tmp 1)⟩,
      ⟨(some 27), none, .load none (.tmp 26)⟩,
      ⟨(some 28), none, .len false (.tmp 27)⟩,
      ⟨(some 29), none, .mov (.const (.int .i64 0))⟩] [2, 3, 6, 7, 8, 27, 28, 29])
  (.block 0
    (.loop [2, 3, 6, 7, 8, 27, 28, 29]
      c23l0)))
  (.seq (.seq (.ops [⟨(some 46), none, .mov (.tmp 6)⟩,
      ⟨(some 47), none, .len false (.tmp 46)⟩,
      ⟨(some 48), none, .bin .eql (.tmp 47) (.const (.int .i64 0))⟩,
      ⟨(some 49), none, .mov (.tmp 48)⟩,
      ⟨(some 50), (some (49, true)), .mov (.tmp 7)⟩,
      ⟨(some 51), (some (49, true)), .len false (.tmp 50)⟩,
      ⟨(some 52), (some (49, true)), .bin .eql (.tmp 51) (.const (.int .i64 0))⟩,
      ⟨(some 53), none, .pick (.tmp 49) (.tmp 52) (.const (.bool false))⟩] [2, 3, 6, 7, 8, 53])
  (.cond (.tmp 53)
    (.seq (.ops [⟨(some 54), none, .load (some 2) (.tmp 8)⟩,
        ⟨(some 55), none, .build [(.int .i64 0), (.int .i64 0)] []⟩,
        ⟨none, none, .store 2 (.tmp 2) (.tmp 54)⟩,
        ⟨none, none, .store 2 (.tmp 3) (.tmp 55)⟩,
        ⟨(some 4), none, .mov (.const (.bool false))⟩,
        ⟨(some 5), none, .mov (.const (.int .i64 0))⟩] [2, 3, 4, 5])
    (.ret))
    (.skip)))
  (.seq (.seq (.ops [⟨(some 56), none, .mov (.tmp 6)⟩,
      ⟨(some 57), none, .len false (.tmp 56)⟩,
      ⟨(some 58), none, .bin .neq (.tmp 57) (.const (.int .i64 1))⟩,
      ⟨(some 59), none, .mov (.tmp 58)⟩,
      ⟨(some 60), (some (59, false)), .mov (.tmp 7)⟩,
      ⟨(some 61), (some (59, false)), .len false (.tmp 60)⟩,
      ⟨(some 62), (some (59, false)), .bin .neq (.tmp 61) (.const (.int .i64 1))⟩,
      ⟨(some 63), none, .pick (.tmp 59) (.const (.bool true)) (.tmp 62)⟩] [2, 3, 6, 7, 8, 63])
  (.cond (.tmp 63)
    (.seq (.ops [⟨(some 64), none, .build [(.int .i64 0), (.slice none 0 0)] []⟩,
        ⟨(some 65), none, .build [(.int .i64 0), (.int .i64 0)] []⟩,
        ⟨none, none, .store 2 (.tmp 2) (.tmp 64)⟩,
        ⟨none, none, .store 2 (.tmp 3) (.tmp 65)⟩,
        ⟨(some 4), none, .mov (.const (.bool false))⟩,
        ⟨(some 5), none, .mov (.const (.int .i64 30))⟩] [2, 3, 4, 5])
    (.ret))
    (.skip)))
  (.seq (.draw [⟨(some 66), none, .mov (.tmp 7)⟩,
      ⟨(some 67), none, .idxS 1 (.tmp 66) (.const (.int .i64 0))⟩,
      ⟨(some 68), none, .load none (.tmp 67)⟩,
      ⟨(some 69), none, .mov (.tmp 6)⟩,
      ⟨(some 70), none, .idxS 1 (.tmp 69) (.const (.int .i64 0))⟩,
      ⟨(some 71), none, .load none (.tmp 70)⟩] [⟨(some 72), none, .build [(.int .i64 0), (.int .i64 0)] [(0, 1, (.tmp 68)), (1, 1, (.tmp 71))]⟩,
      ⟨none, none, .store 2 (.tmp 3) (.tmp 72)⟩] [[], [], [], [], [], []] [2, 3, 8])
  (.seq (.draw [⟨(some 73), none, .fldA 1 (.tmp 8)⟩,
      ⟨(some 74), none, .load none (.tmp 73)⟩,
      ⟨(some 75), none, .fldA 1 (.tmp 3)⟩,
      ⟨(some 76), none, .load none (.tmp 75)⟩,
      ⟨(some 77), none, .idxS 1 (.tmp 74) (.tmp 76)⟩,
      ⟨(some 78), none, .load none (.tmp 77)⟩,
      ⟨(some 79), none, .fldA 0 (.tmp 3)⟩,
      ⟨(some 80), none, .load none (.tmp 79)⟩,
      ⟨(some 81), none, .fldA 1 (.tmp 8)⟩,
      ⟨(some 82), none, .load none (.tmp 81)⟩,
      ⟨(some 83), none, .fldA 1 (.tmp 3)⟩,
      ⟨(some 84), none, .load none (.tmp 83)⟩,
      ⟨(some 85), none, .idxS 1 (.tmp 82) (.tmp 84)⟩,
      ⟨(some 86), none, .load none (.tmp 85)⟩,
      ⟨(some 87), none, .fldA 0 (.tmp 3)⟩,
      ⟨(some 88), none, .load none (.tmp 87)⟩,
      ⟨(some 89), none, .idxS 1 (.tmp 86) (.tmp 88)⟩,
      ⟨(some 90), none, .load none (.tmp 89)⟩,
      ⟨(some 91), none, .un .not (.tmp 90)⟩] [⟨(some 92), none, .idxS 1 (.tmp 78) (.tmp 80)⟩,
      ⟨none, none, .store 1 (.tmp 92) (.tmp 91)⟩] [[], [], [], [], [], [], [], [], [], [], [], [], [], [], [], [], [], [], []] [2, 3, 8])
  (.seq (.drawW [⟨⟨(some 93), none, .load (some 2) (.tmp 8)⟩, [], none⟩,
      ⟨⟨(some 94), none, .load (some 2) (.tmp 3)⟩, [0], none⟩,
      ⟨⟨none, none, .store 2 (.tmp 2) (.tmp 93)⟩, [1], none⟩] [⟨none, none, .store 2 (.tmp 3) (.tmp 94)⟩,
      ⟨(some 4), none, .mov (.const (.bool true))⟩,
      ⟨(some 5), none, .mov (.const (.int .i64 0))⟩] [2, 3, 4, 5])
  (.ret)))))))))),
  95, [(2, (some (some 2))), (3, (some (some 2))), (4, none), (5, none)], false⟩
theorem ok23 : FunOK Tryd.prog 23 c23 := ⟨⟨Tryd.f23, _, c23.code, Tryd.func23, rfl, by kernel_rfl, rfl, by kernel_rfl, by kernel_rfl⟩⟩
/- raddle/peg.Decode -/
def c24l0 : AC :=
  .seq (.ops [⟨(some 41), none, .bin .lss (.tmp 40) (.tmp 39)⟩] [2, 7, 38, 39, 40, 41])
      (.seq (.cond (.tmp 41)
        (.skip)
        (.exit 0))
      (.seq (.block 1
        (.seq (.ops [⟨(some 42), none, .idxS 1 (.tmp 38) (.tmp 40)⟩,
            ⟨(some 43), none, .load none (.tmp 42)⟩,
            ⟨(some 9), none, .mov (.tmp 43)⟩] [2, 7, 9, 38, 39, 40])
        (.draw [⟨(some 44), none, .fldA 2 (.tmp 7)⟩,
            ⟨(some 45), none, .load none (.tmp 44)⟩,
            ⟨(some 46), none, .mov (.tmp 9)⟩,
            ⟨(some 47), none, .fldA 0 (.tmp 7)⟩,
            ⟨(some 48), none, .load none (.tmp 47)⟩,
            ⟨(some 49), none, .slc 1 (.tmp 46) none (some (.tmp 48)) none⟩] [⟨(some 50), none, .app 4 1 1 (.tmp 45) (.tmp 49)⟩,
            ⟨(some 51), none, .fldA 2 (.tmp 7)⟩,
            ⟨none, none, .store 1 (.tmp 51) (.tmp 50)⟩] [[], [], [], [], [], []] [2, 7, 38, 39, 40])))
      (.ops [⟨(some 52), none, .bin .add (.tmp 40) (.const (.int .i64 1))⟩,
          ⟨(some 40), none, .mov (.tmp 52)⟩] [2, 7, 38, 39, 40])))
def c24 : AFun := ⟨
  .seq (.ops [⟨(some 1), none, .box 34 (.tmp 0)⟩,
      ⟨(some 2), none, .alloc 24 [(2, (.int .i64 0)), (1, (.slice none 0 0))]⟩,
      ⟨(some 3), none, .mov (.const (.int .i64 0))⟩] [1, 2])
  (.seq (.ops [⟨(some 11), none, .load (some 2) (.tmp 1)⟩,
      ⟨(some 12), none, .callF 30 [(.tmp 11)]⟩,
      ⟨(some 10), none, .mov (.tmp 12)⟩,
      ⟨(some 13), none, .ext (.tmp 10) 0⟩,
      ⟨(some 14), none, .ext (.tmp 10) 1⟩,
      ⟨(some 15), none, .ext (.tmp 10) 2⟩,
      ⟨(some 4), none, .mov (.tmp 13)⟩,
      ⟨(some 5), none, .mov (.tmp 14)⟩,
      ⟨(some 6), none, .mov (.tmp 15)⟩] [1, 2, 4, 5, 6])
  (.seq (.seq (.ops [⟨(some 16), none, .mov (.tmp 6)⟩,
      ⟨(some 17), none, .bin .neq (.tmp 16) (.const (.int .i64 0))⟩] [1, 2, 4, 5, 6, 17])
  (.cond (.tmp 17)
    (.seq (.ops [⟨(some 18), none, .build [(.int .i64 0), (.int .i64 0), (.slice none 0 0)] []⟩,
        ⟨(some 19), none, .mov (.tmp 6)⟩,
        ⟨none, none, .store 3 (.tmp 2) (.tmp 18)⟩,
        ⟨(some 3), none, .mov (.tmp 19)⟩] [2, 3])
    (.ret))
    (.skip)))
  (.seq (.seq (.ops [⟨(some 20), none, .mov (.tmp 4)⟩,
      ⟨(some 21), none, .len false (.tmp 20)⟩,
      ⟨(some 22), none, .mov (.tmp 5)⟩,
      ⟨(some 23), none, .len false (.tmp 22)⟩,
      ⟨(some 24), none, .bin .add (.tmp 21) (.tmp 23)⟩,
      ⟨(some 25), none, .bin .gtr (.tmp 24) (.const (.int .i64 0))⟩] [1, 2, 25])
  (.cond (.tmp 25)
    (.seq (.ops [⟨(some 26), none, .build [(.int .i64 0), (.int .i64 0), (.slice none 0 0)] []⟩,
        ⟨none, none, .store 3 (.tmp 2) (.tmp 26)⟩,
        ⟨(some 3), none, .mov (.const (.int .i64 30))⟩] [2, 3])
    (.ret))
    (.skip)))
  (.seq (.ops [⟨(some 27), none, .fldA 0 (.tmp 1)⟩,
      ⟨(some 28), none, .load none (.tmp 27)⟩,
      ⟨(some 29), none, .fldA 1 (.tmp 1)⟩,
      ⟨(some 30), none, .load none (.tmp 29)⟩,
      ⟨(some 31), none, .len false (.tmp 30)⟩,
      ⟨(some 32), none, .bin .sub (.tmp 31) (.const (.int .i64 1))⟩,
      ⟨(some 33), none, .build [(.int .i64 0), (.int .i64 0), (.slice none 0 0)] [(0, 1, (.tmp 28)), (1, 1, (.tmp 32))]⟩,
      ⟨(some 7), none, .alloc 24 [(2, (.int .i64 0)), (1, (.slice none 0 0))]⟩,
      ⟨none, none, .store 3 (.tmp 7) (.tmp 33)⟩] [1, 2, 7])
  (.seq (.seq (.ops [⟨(some 34), none, .fldA 1 (.tmp 1)⟩,
      ⟨(some 35), none, .load none (.tmp 34)⟩,
      ⟨(some 36), none, .fldA 1 (.tmp 7)⟩,
      ⟨(some 37), none, .load none (.tmp 36)⟩,
      ⟨(some 38), none, .slc 1 (.tmp 35) none (some (.tmp 37)) none⟩,
      ⟨(some 39), none, .len false (.tmp 38)⟩,
      ⟨(some 40), none, .mov (.const (.int .i64 0))⟩] [2, 7, 38, 39, 40])
  (.block 0
    (.loop [2, 7, 38, 39, 40]
      c24l0)))
  (.seq (.ops [⟨(some 53), none, .load (some 3) (.tmp 7)⟩,
      ⟨none, none, .store 3 (.tmp 2) (.tmp 53)⟩,
      ⟨(some 3), none, .mov (.const (.int .i64 0))⟩] [2, 3])
  (.ret))))))),
  54, [(2, (some (some 3))), (3, none)], false⟩
theorem ok24 : FunOK Tryd.prog 24 c24 := ⟨⟨Tryd.f24, _, c24.code, Tryd.func24, rfl, by kernel_rfl, rfl, by kernel_rfl, by kernel_rfl⟩⟩
/- raddle/peg.Read (1 operations that the interpreter lacks) -/
def c25l0 : AC :=
  .seq (.ops [⟨(some 45), none, .bin .lss (.tmp 44) (.tmp 43)⟩] [0, 3, 4, 6, 42, 44, 45])
      (.seq (.cond (.tmp 45)
        (.skip)
        (.exit 0))
      (.seq (.block 1
        (.seq (.ops [⟨(some 46), none, .idxS 1 (.tmp 42) (.tmp 44)⟩,
            ⟨(some 47), none, .load none (.tmp 46)⟩,
            ⟨(some 11), none, .mov (.tmp 47)⟩] [3, 11])
        (.seq (.ops [⟨(some 48), none, .load none (.tmp 3)⟩,
            ⟨(some 49), none, .mkSlice 4 1 1 [(.bool false)] (.tmp 48) (.tmp 48)⟩,
            ⟨(some 12), none, .alloc 22 [(1, (.slice none 0 0))]⟩,
            ⟨none, none, .store 1 (.tmp 12) (.tmp 49)⟩] [11])
        (.seq (.seq (.ops [⟨(some 50), none, .mov (.tmp 11)⟩,
            ⟨(some 51), none, .callF 49 [(.tmp 50), (.const (.string ⟨#[32]⟩))]⟩] [])
        (.block 2
          (.bad)))
        (.seq (.ops [⟨(some 73), none, .fldA 2 (.tmp 6)⟩,
            ⟨(some 74), none, .load none (.tmp 73)⟩,
            ⟨(some 75), none, .load none (.tmp 12)⟩,
            ⟨(some 76), none, .app 4 1 1 (.tmp 74) (.tmp 75)⟩,
            ⟨(some 77), none, .fldA 2 (.tmp 6)⟩,
            ⟨none, none, .store 1 (.tmp 77) (.tmp 76)⟩] [0, 3, 4, 6, 42, 43, 44])
        (.ops [⟨(some 78), none, .fldA 1 (.tmp 6)⟩,
            ⟨(some 79), none, .load none (.tmp 78)⟩,
            ⟨(some 80), none, .bin .add (.tmp 79) (.const (.int .i64 1))⟩,
            ⟨(some 81), none, .fldA 1 (.tmp 6)⟩,
            ⟨none, none, .store 1 (.tmp 81) (.tmp 80)⟩] [0, 3, 4, 6, 42, 43, 44]))))))
      (.ops [⟨(some 82), none, .bin .add (.tmp 44) (.const (.int .i64 1))⟩,
          ⟨(some 44), none, .mov (.tmp 82)⟩] [0, 3, 4, 6, 42, 43, 44])))
def c25 : AFun := ⟨
  .seq (.ops [⟨(some 3), none, .box 3 (.tmp 1)⟩,
      ⟨(some 4), none, .alloc 24 [(2, (.int .i64 0)), (1, (.slice none 0 0))]⟩,
      ⟨(some 5), none, .mov (.const (.int .i64 0))⟩] [0, 3, 4])
  (.seq (.seq (.ops [⟨(some 18), none, .load none (.tmp 3)⟩,
      ⟨(some 19), none, .bin .lss (.tmp 18) (.const (.int .i64 1))⟩,
      ⟨(some 20), none, .mov (.tmp 19)⟩,
      ⟨(some 21), (some (20, false)), .load none (.tmp 3)⟩,
      ⟨(some 22), (some (20, false)), .bin .gtr (.tmp 21) (.const (.int .i64 40))⟩,
      ⟨(some 23), none, .pick (.tmp 20) (.const (.bool true)) (.tmp 22)⟩] [0, 3, 4, 23])
  (.cond (.tmp 23)
    (.seq (.ops [⟨(some 24), none, .build [(.int .i64 0), (.int .i64 0), (.slice none 0 0)] []⟩,
        ⟨none, none, .store 3 (.tmp 4) (.tmp 24)⟩,
        ⟨(some 5), none, .mov (.const (.int .i64 2))⟩] [4, 5])
    (.ret))
    (.skip)))
  (.seq (.ops [⟨(some 25), none, .load none (.tmp 3)⟩,
      ⟨(some 26), none, .build [(.int .i64 0), (.int .i64 0), (.slice none 0 0)] [(0, 1, (.tmp 25))]⟩,
      ⟨(some 6), none, .alloc 24 [(2, (.int .i64 0)), (1, (.slice none 0 0))]⟩,
      ⟨none, none, .store 3 (.tmp 6) (.tmp 26)⟩] [0, 3, 4, 6])
  (.seq (.ops [⟨(some 28), none, .mov (.tmp 0)⟩,
      ⟨(some 29), none, .callF 47 [(.tmp 28), (.const (.string ⟨#[10]⟩))]⟩,
      ⟨(some 27), none, .mov (.tmp 29)⟩,
      ⟨(some 30), none, .ext (.tmp 27) 0⟩,
      ⟨(some 31), none, .ext (.tmp 27) 1⟩,
      ⟨(some 7), none, .mov (.tmp 30)⟩,
      ⟨(some 8), none, .mov (.tmp 31)⟩] [0, 3, 4, 6, 7, 8])
  (.seq (.ops [⟨(some 32), none, .mov (.tmp 7)⟩,
      ⟨(some 33), none, .callF 48 [(.tmp 32), (.const (.string ⟨#[10]⟩))]⟩,
      ⟨(some 9), none, .mov (.tmp 33)⟩] [0, 3, 4, 6, 8, 9])
  (.seq (.seq (.ops [⟨(some 34), none, .mov (.tmp 8)⟩,
      ⟨(some 35), none, .un .not (.tmp 34)⟩,
      ⟨(some 36), none, .mov (.tmp 35)⟩,
      ⟨(some 37), (some (36, false)), .mov (.tmp 9)⟩,
      ⟨(some 38), (some (36, false)), .len false (.tmp 37)⟩,
      ⟨(some 39), (some (36, false)), .bin .gtr (.tmp 38) (.const (.int .i64 64))⟩,
      ⟨(some 40), none, .pick (.tmp 36) (.const (.bool true)) (.tmp 39)⟩] [0, 3, 4, 6, 9, 40])
  (.cond (.tmp 40)
    (.seq (.ops [⟨(some 41), none, .build [(.int .i64 0), (.int .i64 0), (.slice none 0 0)] []⟩,
        ⟨none, none, .store 3 (.tmp 4) (.tmp 41)⟩,
        ⟨(some 5), none, .mov (.const (.int .i64 12))⟩] [4, 5])
    (.ret))
    (.skip)))
  (.seq (.seq (.ops [⟨(some 42), none, .mov (.tmp 9)⟩,
      ⟨(some 43), none, .len false (.tmp 42)⟩,
      ⟨(some 44), none, .mov (.const (.int .i64 0))⟩] [0, 3, 4, 6, 42, 43, 44])
  (.block 0
    (.loop [0, 3, 4, 6, 42, 43, 44]
      c25l0)))
  (.seq (.seq (.ops [⟨(some 84), none, .load (some 3) (.tmp 6)⟩,
      ⟨(some 85), none, .callF 11 [(.tmp 84)]⟩,
      ⟨(some 83), none, .mov (.tmp 85)⟩,
      ⟨(some 86), none, .ext (.tmp 83) 0⟩,
      ⟨(some 87), none, .ext (.tmp 83) 1⟩,
      ⟨(some 16), none, .mov (.tmp 86)⟩,
      ⟨(some 17), none, .mov (.tmp 87)⟩] [0, 4, 6, 16, 17])
  (.seq (.ops [⟨(some 88), none, .mov (.tmp 17)⟩,
      ⟨(some 89), none, .bin .neq (.tmp 88) (.const (.int .i64 0))⟩,
      ⟨(some 90), none, .mov (.tmp 89)⟩,
      ⟨(some 91), (some (90, false)), .mov (.tmp 16)⟩,
      ⟨(some 92), (some (90, false)), .mov (.tmp 0)⟩,
      ⟨(some 93), (some (90, false)), .bin .neq (.tmp 91) (.tmp 92)⟩,
      ⟨(some 94), none, .pick (.tmp 90) (.const (.bool true)) (.tmp 93)⟩] [4, 6, 94])
  (.cond (.tmp 94)
    (.seq (.ops [⟨(some 95), none, .build [(.int .i64 0), (.int .i64 0), (.slice none 0 0)] []⟩,
        ⟨none, none, .store 3 (.tmp 4) (.tmp 95)⟩,
        ⟨(some 5), none, .mov (.const (.int .i64 12))⟩] [4, 5])
    (.ret))
    (.skip))))
  (.seq (.ops [⟨(some 96), none, .load (some 3) (.tmp 6)⟩,
      ⟨none, none, .store 3 (.tmp 4) (.tmp 96)⟩,
      ⟨(some 5), none, .mov (.const (.int .i64 0))⟩] [4, 5])
  (.ret))))))))),
  97, [(4, (some (some 3))), (5, none)], false⟩
theorem ok25 : FunOK Tryd.prog 25 c25 := ⟨⟨Tryd.f25, _, c25.code, Tryd.func25, rfl, by kernel_rfl, rfl, by kernel_rfl, by kernel_rfl⟩⟩
/- raddle/peg.Parse -/
def c27l0 : AC :=
  .seq (.ops [⟨(some 10), none, .nextS (.tmp 9)⟩,
          ⟨(some 11), none, .ext (.tmp 10) 0⟩] [2, 4, 5, 9, 10, 11])
      (.seq (.cond (.tmp 11)
        (.skip)
        (.exit 0))
      (.block 1
        (.seq (.ops [⟨(some 12), none, .ext (.tmp 10) 2⟩,
            ⟨(some 7), none, .mov (.tmp 12)⟩] [2, 4, 5, 7, 9])
        (.seq (.ops [⟨(some 13), none, .mov (.tmp 7)⟩] [2, 4, 5, 7, 9, 13])
        (.block 2
          (.seq (.seq (.ops [⟨(some 16), none, .bin .eql (.tmp 13) (.const (.int .i32 111))⟩,
              ⟨(some 15), none, .mov (.tmp 16)⟩] [2, 4, 5, 7, 9, 13, 15])
          (.cond (.tmp 15)
            (.skip)
            (.ops [⟨(some 17), none, .bin .eql (.tmp 13) (.const (.int .i32 46))⟩,
                ⟨(some 15), none, .mov (.tmp 17)⟩] [2, 4, 5, 7, 9, 13, 15])))
          (.cond (.tmp 15)
            (.ops [⟨(some 18), none, .mov (.tmp 5)⟩,
                ⟨(some 19), none, .mov (.tmp 7)⟩,
                ⟨(some 20), none, .bin .eql (.tmp 19) (.const (.int .i32 111))⟩,
                ⟨(some 21), none, .mkRow 4 1 1 [(.bool false)] [(0, 1, (.tmp 20))]⟩,
                ⟨(some 22), none, .app 4 1 1 (.tmp 18) (.tmp 21)⟩,
                ⟨(some 5), none, .mov (.tmp 22)⟩] [2, 4, 5, 9])
            (.seq (.ops [⟨(some 24), none, .bin .eql (.tmp 13) (.const (.int .i32 10))⟩,
                ⟨(some 23), none, .mov (.tmp 24)⟩] [2, 4, 5, 9, 23])
            (.cond (.tmp 23)
              (.seq (.ops [⟨(some 25), none, .fldA 1 (.tmp 4)⟩,
                  ⟨(some 26), none, .load none (.tmp 25)⟩,
                  ⟨(some 27), none, .mov (.tmp 5)⟩,
                  ⟨(some 28), none, .mkRow 22 1 1 [(.slice none 0 0)] [(0, 1, (.tmp 27))]⟩,
                  ⟨(some 29), none, .app 22 1 24 (.tmp 26) (.tmp 28)⟩,
                  ⟨(some 30), none, .fldA 1 (.tmp 4)⟩,
                  ⟨none, none, .store 1 (.tmp 30) (.tmp 29)⟩] [2, 4, 9])
              (.ops [⟨(some 5), none, .mov (.const (.slice none 0 0))⟩] [2, 4, 5, 9]))
              (.seq (.ops [⟨(some 14), none, .build [(.int .i64 0), (.slice none 0 0)] []⟩,
                  ⟨none, none, .store 2 (.tmp 2) (.tmp 14)⟩,
                  ⟨(some 3), none, .mov (.const (.int .i64 12))⟩] [2, 3])
              (.ret)))))))))))
def c27 : AFun := ⟨
  .seq (.ops [⟨(some 2), none, .alloc 34 [(1, (.int .i64 0)), (1, (.slice none 0 0))]⟩,
      ⟨(some 3), none, .mov (.const (.int .i64 0))⟩] [0, 2])
  (.seq (.ops [⟨(some 4), none, .alloc 34 [(1, (.int .i64 0)), (1, (.slice none 0 0))]⟩] [0, 2, 4])
  (.seq (.ops [⟨(some 5), none, .mov (.const (.slice none 0 0))⟩] [0, 2, 4, 5])
  (.seq (.seq (.ops [⟨(some 8), none, .mov (.tmp 0)⟩,
      ⟨(some 9), none, .rangeS (.tmp 8)⟩] [2, 4, 5, 9])
  (.block 0
    (.loop [2, 4, 5, 9]
      c27l0)))
  (.seq (.seq (.ops [⟨(some 31), none, .mov (.tmp 5)⟩,
      ⟨(some 32), none, .eqNil 1 true (.tmp 31) (.const (.slice none 0 0))⟩,
      ⟨(some 33), none, .mov (.tmp 32)⟩,
      ⟨(some 34), (some (33, false)), .fldA 1 (.tmp 4)⟩,
      ⟨(some 35), (some (33, false)), .load none (.tmp 34)⟩,
      ⟨(some 36), (some (33, false)), .len false (.tmp 35)⟩,
      ⟨(some 37), (some (33, false)), .bin .eql (.tmp 36) (.const (.int .i64 0))⟩,
      ⟨(some 38), none, .pick (.tmp 33) (.const (.bool true)) (.tmp 37)⟩] [2, 4, 38])
  (.cond (.tmp 38)
    (.seq (.ops [⟨(some 39), none, .build [(.int .i64 0), (.slice none 0 0)] []⟩,
        ⟨none, none, .store 2 (.tmp 2) (.tmp 39)⟩,
        ⟨(some 3), none, .mov (.const (.int .i64 12))⟩] [2, 3])
    (.ret))
    (.skip)))
  (.seq (.ops [⟨(some 40), none, .fldA 1 (.tmp 4)⟩,
      ⟨(some 41), none, .load none (.tmp 40)⟩,
      ⟨(some 42), none, .idxS 1 (.tmp 41) (.const (.int .i64 0))⟩,
      ⟨(some 43), none, .load none (.tmp 42)⟩,
      ⟨(some 44), none, .len false (.tmp 43)⟩,
      ⟨(some 45), none, .bin .sub (.tmp 44) (.const (.int .i64 1))⟩,
      ⟨(some 46), none, .fldA 0 (.tmp 4)⟩,
      ⟨none, none, .store 1 (.tmp 46) (.tmp 45)⟩] [2, 4])
  (.seq (.seq (.ops [⟨(some 47), none, .load (some 2) (.tmp 4)⟩,
      ⟨(some 48), none, .callF 52 [(.tmp 47)]⟩,
      ⟨(some 49), none, .un .not (.tmp 48)⟩] [2, 4, 49])
  (.cond (.tmp 49)
    (.seq (.ops [⟨(some 50), none, .build [(.int .i64 0), (.slice none 0 0)] []⟩,
        ⟨none, none, .store 2 (.tmp 2) (.tmp 50)⟩,
        ⟨(some 3), none, .mov (.const (.int .i64 12))⟩] [2, 3])
    (.ret))
    (.skip)))
  (.seq (.ops [⟨(some 51), none, .load (some 2) (.tmp 4)⟩,
      ⟨none, none, .store 2 (.tmp 2) (.tmp 51)⟩,
      ⟨(some 3), none, .mov (.const (.int .i64 0))⟩] [2, 3])
  (.ret)))))))),
  52, [(2, (some (some 2))), (3, none)], false⟩
theorem ok27 : FunOK Tryd.prog 27 c27 := ⟨⟨Tryd.f27, _, c27.code, Tryd.func27, rfl, by kernel_rfl, rfl, by kernel_rfl, by kernel_rfl⟩⟩
/- raddle/peg.Text -/
def c29l0 : AC :=
  .seq (.ops [⟨(some 22), none, .bin .lss (.tmp 21) (.tmp 20)⟩] [4, 13, 14, 15, 19, 20, 21, 22])
            (.seq (.cond (.tmp 22)
              (.skip)
              (.exit 2))
            (.seq (.block 3
              (.seq (.ops [⟨(some 23), none, .idxS 1 (.tmp 19) (.tmp 21)⟩,
                  ⟨(some 24), none, .load none (.tmp 23)⟩,
                  ⟨(some 8), none, .mov (.tmp 24)⟩] [4, 8, 13, 14, 15, 19, 20, 21])
              (.seq (.ops [⟨(some 25), none, .mov (.tmp 8)⟩] [4, 13, 14, 15, 19, 20, 21, 25])
              (.cond (.tmp 25)
                (.ops [⟨(some 26), none, .callF 53 [(.tmp 4), (.const (.int .u8 111))]⟩] [4, 13, 14, 15, 19, 20, 21])
                (.ops [⟨(some 27), none, .callF 53 [(.tmp 4), (.const (.int .u8 46))]⟩] [4, 13, 14, 15, 19, 20, 21])))))
            (.ops [⟨(some 28), none, .bin .add (.tmp 21) (.const (.int .i64 1))⟩,
                ⟨(some 21), none, .mov (.tmp 28)⟩] [4, 13, 14, 15, 19, 20, 21])))
def c29l1 : AC :=
  .seq (.ops [⟨(some 16), none, .bin .lss (.tmp 15) (.tmp 14)⟩] [4, 13, 14, 15, 16])
      (.seq (.cond (.tmp 16)
        (.skip)
        (.exit 0))
      (.seq (.block 1
        (.seq (.ops [⟨(some 17), none, .idxS 1 (.tmp 13) (.tmp 15)⟩,
            ⟨(some 18), none, .load none (.tmp 17)⟩,
            ⟨(some 6), none, .mov (.tmp 18)⟩] [4, 6, 13, 14, 15])
        (.seq (.seq (.ops [⟨(some 19), none, .mov (.tmp 6)⟩,
            ⟨(some 20), none, .len false (.tmp 19)⟩,
            ⟨(some 21), none, .mov (.const (.int .i64 0))⟩] [4, 13, 14, 15, 19, 20, 21])
        (.block 2
          (.loop [4, 13, 14, 15, 19, 20, 21]
            c29l0)))
        (.ops [⟨(some 29), none, .callF 53 [(.tmp 4), (.const (.int .u8 10))]⟩] [4, 13, 14, 15]))))
      (.ops [⟨(some 30), none, .bin .add (.tmp 15) (.const (.int .i64 1))⟩,
          ⟨(some 15), none, .mov (.tmp 30)⟩] [4, 13, 14, 15])))
def c29 : AFun := ⟨
  .seq (.ops [⟨(some 1), none, .box 34 (.tmp 0)⟩,
      ⟨(some 2), none, .mov (.const (.string ⟨#[]⟩))⟩,
      ⟨(some 3), none, .mov (.const (.int .i64 0))⟩] [1])
  (.seq (.seq (.ops [⟨(some 9), none, .load (some 2) (.tmp 1)⟩,
      ⟨(some 10), none, .callF 52 [(.tmp 9)]⟩,
      ⟨(some 11), none, .un .not (.tmp 10)⟩] [1, 11])
  (.cond (.tmp 11)
    (.seq (.ops [⟨(some 2), none, .mov (.const (.string ⟨#[]⟩))⟩,
        ⟨(some 3), none, .mov (.const (.int .i64 8))⟩] [2, 3])
    (.ret))
    (.skip)))
  (.seq (.ops [⟨(some 4), none, .alloc 69 [(1, (.pointer none)), (1, (.slice none 0 0))]⟩] [1, 4])
  (.seq (.seq (.ops [⟨(some 12), none, .fldA 1 (.tmp 1)⟩,
      ⟨(some 13), none, .load none (.tmp 12)⟩,
      ⟨(some 14), none, .len false (.tmp 13)⟩,
      ⟨(some 15), none, .mov (.const (.int .i64 0))⟩] [4, 13, 14, 15])
  (.block 0
    (.loop [4, 13, 14, 15]
      c29l1)))
  (.seq (.ops [⟨(some 31), none, .callF 35 [(.tmp 4)]⟩,
      ⟨(some 2), none, .mov (.tmp 31)⟩,
      ⟨(some 3), none, .mov (.const (.int .i64 0))⟩] [2, 3])
  (.ret))))),
  32, [(2, none), (3, none)], true⟩
theorem ok29 : FunOK Tryd.prog 29 c29 := ⟨⟨Tryd.f29, _, c29.code, Tryd.func29, rfl, by kernel_rfl, rfl, by kernel_rfl, by kernel_rfl⟩⟩
/- raddle/peg.Wrong -/
def c30l0 : AC :=
  .seq (.ops [⟨(some 32), none, .bin .lss (.tmp 31) (.tmp 30)⟩] [1, 2, 3, 30, 31, 32])
      (.seq (.cond (.tmp 32)
        (.skip)
        (.exit 2))
      (.seq (.block 3
        (.seq (.ops [⟨(some 33), none, .mov (.tmp 31)⟩,
            ⟨(some 7), none, .alloc 3 [(1, (.int .i64 0))]⟩,
            ⟨none, none, .store 1 (.tmp 7) (.tmp 33)⟩] [1, 2, 3, 7, 30, 31])
        (.seq (.ops [⟨(some 34), none, .fldA 1 (.tmp 1)⟩,
            ⟨(some 35), none, .load none (.tmp 34)⟩,
            ⟨(some 36), none, .len false (.tmp 35)⟩,
            ⟨(some 37), none, .mkFn 55 [] [(.tmp 1), (.tmp 7)]⟩,
            ⟨(some 38), none, .callF 38 [(.tmp 36), (.tmp 37)]⟩] [1, 2, 3, 7, 30, 31, 38])
        (.cond (.tmp 38)
          (.ops [⟨(some 39), none, .mov (.tmp 3)⟩,
              ⟨(some 40), none, .load none (.tmp 7)⟩,
              ⟨(some 41), none, .mkRow 3 1 1 [(.int .i64 0)] [(0, 1, (.tmp 40))]⟩,
              ⟨(some 42), none, .app 3 1 8 (.tmp 39) (.tmp 41)⟩,
              ⟨(some 3), none, .mov (.tmp 42)⟩] [1, 2, 3, 30, 31])
          (.skip)))))
      (.ops [⟨(some 43), none, .bin .add (.tmp 31) (.const (.int .i64 1))⟩,
          ⟨(some 31), none, .mov (.tmp 43)⟩] [1, 2, 3, 30, 31])))
def c30l1 : AC :=
  .seq (.ops [⟨(some 15), none, .bin .lss (.tmp 14) (.tmp 13)⟩] [1, 2, 3, 12, 13, 14, 15])
      (.seq (.cond (.tmp 15)
        (.skip)
        (.exit 0))
      (.seq (.block 1
        (.seq (.ops [⟨(some 16), none, .mov (.tmp 14)⟩,
            ⟨(some 17), none, .idxS 1 (.tmp 12) (.tmp 14)⟩,
            ⟨(some 18), none, .load none (.tmp 17)⟩,
            ⟨(some 6), none, .alloc 22 [(1, (.slice none 0 0))]⟩,
            ⟨(some 5), none, .mov (.tmp 16)⟩,
            ⟨none, none, .store 1 (.tmp 6) (.tmp 18)⟩] [1, 2, 3, 5, 6, 12, 13, 14])
        (.seq (.ops [⟨(some 19), none, .load none (.tmp 6)⟩,
            ⟨(some 20), none, .len false (.tmp 19)⟩,
            ⟨(some 21), none, .mkFn 54 [] [(.tmp 6)]⟩,
            ⟨(some 22), none, .callF 38 [(.tmp 20), (.tmp 21)]⟩] [1, 2, 3, 5, 12, 13, 14, 22])
        (.cond (.tmp 22)
          (.ops [⟨(some 23), none, .mov (.tmp 2)⟩,
              ⟨(some 24), none, .mov (.tmp 5)⟩,
              ⟨(some 25), none, .mkRow 3 1 1 [(.int .i64 0)] [(0, 1, (.tmp 24))]⟩,
              ⟨(some 26), none, .app 3 1 8 (.tmp 23) (.tmp 25)⟩,
              ⟨(some 2), none, .mov (.tmp 26)⟩] [1, 2, 3, 12, 13, 14])
          (.skip)))))
      (.ops [⟨(some 27), none, .bin .add (.tmp 14) (.const (.int .i64 1))⟩,
          ⟨(some 14), none, .mov (.tmp 27)⟩] [1, 2, 3, 12, 13, 14])))
def c30 : AFun := ⟨
  .seq (.ops [⟨(some 1), none, .box 34 (.tmp 0)⟩,
      ⟨(some 2), none, .mov (.const (.slice none 0 0))⟩,
      ⟨(some 3), none, .mov (.const (.slice none 0 0))⟩,
      ⟨(some 4), none, .mov (.const (.int .i64 0))⟩] [1, 2, 3])
  (.seq (.seq (.ops [⟨(some 8), none, .load (some 2) (.tmp 1)⟩,
      ⟨(some 9), none, .callF 52 [(.tmp 8)]⟩,
      ⟨(some 10), none, .un .not (.tmp 9)⟩] [1, 2, 3, 10])
  (.cond (.tmp 10)
    (.seq (.ops [⟨(some 2), none, .mov (.const (.slice none 0 0))⟩,
        ⟨(some 3), none, .mov (.const (.slice none 0 0))⟩,
        ⟨(some 4), none, .mov (.const (.int .i64 8))⟩] [2, 3, 4])
    (.ret))
    (.skip)))
  (.seq (.seq (.ops [⟨(some 11), none, .fldA 1 (.tmp 1)⟩,
      ⟨(some 12), none, .load none (.tmp 11)⟩,
      ⟨(some 13), none, .len false (.tmp 12)⟩,
      ⟨(some 14), none, .mov (.const (.int .i64 0))⟩] [1, 2, 3, 12, 13, 14])
  (.block 0
    (.loop [1, 2, 3, 12, 13, 14]
      c30l1)))
  (.seq (.seq (.ops [⟨(some 28), none, .fldA 0 (.tmp 1)⟩,
      ⟨(some 29), none, .load none (.tmp 28)⟩,
      ⟨(some 30), none, .bin .add (.tmp 29) (.const (.int .i64 1))⟩,
      ⟨(some 31), none, .mov (.const (.int .i64 0))⟩] [1, 2, 3, 30, 31])
  (.block 2
    (.loop [1, 2, 3, 30, 31]
      c30l0)))
  (.seq (.ops [⟨(some 44), none, .mov (.tmp 2)⟩,
      ⟨(some 45), none, .mov (.tmp 3)⟩,
      ⟨(some 2), none, .mov (.tmp 44)⟩,
      ⟨(some 3), none, .mov (.tmp 45)⟩,
      ⟨(some 4), none, .mov (.const (.int .i64 0))⟩] [2, 3, 4])
  (.ret))))),
  46, [(2, none), (3, none), (4, none)], false⟩
theorem ok30 : FunOK Tryd.prog 30 c30 := ⟨⟨Tryd.f30, _, c30.code, Tryd.func30, rfl, by kernel_rfl, rfl, by kernel_rfl, by kernel_rfl⟩⟩
/- strconv.Itoa -/
def c32 : AFun := ⟨
  .seq (.ops [⟨(some 2), none, .mov (.const (.string ⟨#[]⟩))⟩] [0])
  (.seq (.ops [⟨(some 3), none, .mov (.tmp 0)⟩,
      ⟨(some 4), none, .callF 56 [(.tmp 3)]⟩,
      ⟨(some 2), none, .mov (.tmp 4)⟩] [2])
  (.ret)),
  5, [(2, none)], true⟩
theorem ok32 : FunOK Tryd.prog 32 c32 := ⟨⟨Tryd.f32, _, c32.code, Tryd.func32, rfl, by kernel_rfl, rfl, by kernel_rfl, by kernel_rfl⟩⟩
/- (*strings.Builder).WriteString -/
def c33 : AFun := ⟨
  .seq (.ops [⟨(some 4), none, .mov (.const (.int .i64 0))⟩,
      ⟨(some 5), none, .mov (.const .nilIface)⟩] [0, 1])
  (.seq (.ops [⟨(some 6), none, .mov (.tmp 0)⟩,
      ⟨(some 7), none, .callF 57 [(.tmp 6)]⟩] [0, 1])
  (.seq (.ops [⟨(some 8), none, .mov (.tmp 0)⟩,
      ⟨(some 9), none, .mov (.tmp 0)⟩,
      ⟨(some 10), none, .nilChk (.tmp 9)⟩,
      ⟨(some 11), none, .fldA 1 (.tmp 10)⟩,
      ⟨(some 12), none, .load none (.tmp 11)⟩,
      ⟨(some 13), none, .mov (.tmp 1)⟩,
      ⟨(some 14), none, .app 5 1 1 (.tmp 12) (.tmp 13)⟩,
      ⟨(some 15), none, .nilChk (.tmp 8)⟩,
      ⟨(some 16), none, .fldA 1 (.tmp 15)⟩,
      ⟨none, none, .store 1 (.tmp 16) (.tmp 14)⟩] [1])
  (.seq (.ops [⟨(some 17), none, .mov (.tmp 1)⟩,
      ⟨(some 18), none, .len true (.tmp 17)⟩,
      ⟨(some 4), none, .mov (.tmp 18)⟩,
      ⟨(some 5), none, .mov (.const .nilIface)⟩] [4, 5])
  (.ret)))),
  19, [(4, none), (5, none)], false⟩
theorem ok33 : FunOK Tryd.prog 33 c33 := ⟨⟨Tryd.f33, _, c33.code, Tryd.func33, rfl, by kernel_rfl, rfl, by kernel_rfl, by kernel_rfl⟩⟩
/- strings.Join (2 operations that the interpreter lacks) -/
def c34l0 : AC :=
  .seq (.ops [⟨(some 66), none, .bin .lss (.tmp 65) (.tmp 64)⟩] [1, 8, 63, 64, 65, 66])
      (.seq (.cond (.tmp 66)
        (.skip)
        (.exit 3))
      (.seq (.block 4
        (.seq (.ops [⟨(some 67), none, .idxS 1 (.tmp 63) (.tmp 65)⟩,
            ⟨(some 68), none, .load none (.tmp 67)⟩,
            ⟨(some 10), none, .mov (.tmp 68)⟩] [1, 8, 10, 63, 64, 65])
        (.seq (.ops [⟨(some 69), none, .mov (.tmp 1)⟩,
            ⟨(some 70), none, .callF 33 [(.tmp 8), (.tmp 69)]⟩] [1, 8, 10, 63, 64, 65])
        (.ops [⟨(some 71), none, .mov (.tmp 10)⟩,
            ⟨(some 72), none, .callF 33 [(.tmp 8), (.tmp 71)]⟩] [1, 8, 63, 64, 65]))))
      (.ops [⟨(some 73), none, .bin .add (.tmp 65) (.const (.int .i64 1))⟩,
          ⟨(some 65), none, .mov (.tmp 73)⟩] [1, 8, 63, 64, 65])))
def c34l1 : AC :=
  .seq (.ops [⟨(some 42), none, .bin .lss (.tmp 41) (.tmp 40)⟩] [0, 1, 5, 39, 40, 41, 42])
      (.seq (.cond (.tmp 42)
        (.skip)
        (.exit 1))
      (.seq (.block 2
        (.seq (.ops [⟨(some 43), none, .idxS 1 (.tmp 39) (.tmp 41)⟩,
            ⟨(some 44), none, .load none (.tmp 43)⟩,
            ⟨(some 7), none, .mov (.tmp 44)⟩] [0, 1, 5, 7, 39, 40, 41])
        (.seq (.seq (.ops [⟨(some 45), none, .mov (.tmp 7)⟩,
            ⟨(some 46), none, .len true (.tmp 45)⟩,
            ⟨(some 47), none, .mov (.tmp 5)⟩,
            ⟨(some 48), none, .bin .sub (.const (.int .i64 9223372036854775807)) (.tmp 47)⟩,
            ⟨(some 49), none, .bin .gtr (.tmp 46) (.tmp 48)⟩] [0, 1, 5, 7, 39, 40, 41, 49])
        (.cond (.tmp 49)
          (.ops [⟨(some 50), none, .mkIf 9 (.const (.string ⟨#[115, 116, 114, 105, 110, 103, 115, 58, 32, 74, 111, 105, 110, 32, 111, 117, 116, 112, 117, 116, 32, 108, 101, 110, 103, 116, 104, 32, 111, 118, 101, 114, 102, 108, 111, 119]⟩))⟩,
              ⟨none, none, .bad⟩] [0, 1, 5, 7, 39, 40, 41])
          (.skip)))
        (.ops [⟨(some 51), none, .mov (.tmp 5)⟩,
            ⟨(some 52), none, .mov (.tmp 7)⟩,
            ⟨(some 53), none, .len true (.tmp 52)⟩,
            ⟨(some 54), none, .bin .add (.tmp 51) (.tmp 53)⟩,
            ⟨(some 5), none, .mov (.tmp 54)⟩] [0, 1, 5, 39, 40, 41]))))
      (.ops [⟨(some 55), none, .bin .add (.tmp 41) (.const (.int .i64 1))⟩,
          ⟨(some 41), none, .mov (.tmp 55)⟩] [0, 1, 5, 39, 40, 41])))
def c34 : AFun := ⟨
  .seq (.ops [⟨(some 4), none, .mov (.const (.string ⟨#[]⟩))⟩] [0, 1])
  (.seq (.seq (.ops [⟨(some 11), none, .mov (.tmp 0)⟩,
      ⟨(some 12), none, .len false (.tmp 11)⟩] [0, 1, 12])
  (.block 0
    (.seq (.ops [⟨(some 14), none, .bin .eql (.tmp 12) (.const (.int .i64 0))⟩,
        ⟨(some 13), none, .mov (.tmp 14)⟩] [0, 1, 12, 13])
    (.cond (.tmp 13)
      (.seq (.ops [⟨(some 4), none, .mov (.const (.string ⟨#[]⟩))⟩] [4])
      (.ret))
      (.seq (.ops [⟨(some 16), none, .bin .eql (.tmp 12) (.const (.int .i64 1))⟩,
          ⟨(some 15), none, .mov (.tmp 16)⟩] [0, 1, 15])
      (.cond (.tmp 15)
        (.seq (.ops [⟨(some 17), none, .mov (.tmp 0)⟩,
            ⟨(some 18), none, .idxS 1 (.tmp 17) (.const (.int .i64 0))⟩,
            ⟨(some 19), none, .load none (.tmp 18)⟩,
            ⟨(some 4), none, .mov (.tmp 19)⟩] [4])
        (.ret))
        (.skip)))))))
  (.seq (.ops [⟨(some 5), none, .mov (.const (.int .i64 0))⟩] [0, 1, 5])
  (.seq (.seq (.ops [⟨(some 20), none, .mov (.tmp 1)⟩,
      ⟨(some 21), none, .len true (.tmp 20)⟩,
      ⟨(some 22), none, .bin .gtr (.tmp 21) (.const (.int .i64 0))⟩] [0, 1, 5, 22])
  (.cond (.tmp 22)
    (.seq (.seq (.ops [⟨(some 23), none, .mov (.tmp 1)⟩,
        ⟨(some 24), none, .len true (.tmp 23)⟩,
        ⟨(some 25), none, .mov (.tmp 0)⟩,
        ⟨(some 26), none, .len false (.tmp 25)⟩,
        ⟨(some 27), none, .bin .sub (.tmp 26) (.const (.int .i64 1))⟩,
        ⟨(some 28), none, .bin .quo (.const (.int .i64 9223372036854775807)) (.tmp 27)⟩,
        ⟨(some 29), none, .bin .geq (.tmp 24) (.tmp 28)⟩] [0, 1, 5, 29])
    (.cond (.tmp 29)
      (.ops [⟨(some 30), none, .mkIf 9 (.const (.string ⟨#[115, 116, 114, 105, 110, 103, 115, 58, 32, 74, 111, 105, 110, 32, 111, 117, 116, 112, 117, 116, 32, 108, 101, 110, 103, 116, 104, 32, 111, 118, 101, 114, 102, 108, 111, 119]⟩))⟩,
          ⟨none, none, .bad⟩] [0, 1, 5])
      (.skip)))
    (.ops [⟨(some 31), none, .mov (.tmp 5)⟩,
        ⟨(some 32), none, .mov (.tmp 1)⟩,
        ⟨(some 33), none, .len true (.tmp 32)⟩,
        ⟨(some 34), none, .mov (.tmp 0)⟩,
        ⟨(some 35), none, .len false (.tmp 34)⟩,
        ⟨(some 36), none, .bin .sub (.tmp 35) (.const (.int .i64 1))⟩,
        ⟨(some 37), none, .bin .mul (.tmp 33) (.tmp 36)⟩,
        ⟨(some 38), none, .bin .add (.tmp 31) (.tmp 37)⟩,
        ⟨(some 5), none, .mov (.tmp 38)⟩] [0, 1, 5]))
    (.skip)))
  (.seq (.seq (.ops [⟨(some 39), none, .mov (.tmp 0)⟩,
      ⟨(some 40), none, .len false (.tmp 39)⟩,
      ⟨(some 41), none, .mov (.const (.int .i64 0))⟩] [0, 1, 5, 39, 40, 41])
  (.block 1
    (.loop [0, 1, 5, 39, 40, 41]
      c34l1)))
  (.seq (.ops [⟨(some 8), none, .alloc 69 [(1, (.pointer none)), (1, (.slice none 0 0))]⟩] [0, 1, 5, 8])
  (.seq (.ops [⟨(some 56), none, .mov (.tmp 5)⟩,
      ⟨(some 57), none, .callF 58 [(.tmp 8), (.tmp 56)]⟩] [0, 1, 8])
  (.seq (.ops [⟨(some 58), none, .mov (.tmp 0)⟩,
      ⟨(some 59), none, .idxS 1 (.tmp 58) (.const (.int .i64 0))⟩,
      ⟨(some 60), none, .load none (.tmp 59)⟩,
      ⟨(some 61), none, .callF 33 [(.tmp 8), (.tmp 60)]⟩] [0, 1, 8])
  (.seq (.seq (.ops [⟨(some 62), none, .mov (.tmp 0)⟩,
      ⟨(some 63), none, .slc 1 (.tmp 62) (some (.const (.int .i64 1))) none none⟩,
      ⟨(some 64), none, .len false (.tmp 63)⟩,
      ⟨(some 65), none, .mov (.const (.int .i64 0))⟩] [1, 8, 63, 64, 65])
  (.block 3
    (.loop [1, 8, 63, 64, 65]
      c34l0)))
  (.seq (.ops [⟨(some 74), none, .callF 35 [(.tmp 8)]⟩,
      ⟨(some 4), none, .mov (.tmp 74)⟩] [4])
  (.ret)))))))))),
  75, [(4, none)], true⟩
theorem ok34 : FunOK Tryd.prog 34 c34 := ⟨⟨Tryd.f34, _, c34.code, Tryd.func34, rfl, by kernel_rfl, rfl, by kernel_rfl, by kernel_rfl⟩⟩
/- (*strings.Builder).String -/
def c35 : AFun := ⟨
  .seq (.ops [⟨(some 2), none, .mov (.const (.string ⟨#[]⟩))⟩] [0])
  (.seq (.draw [⟨(some 3), none, .mov (.tmp 0)⟩,
      ⟨(some 4), none, .nilChk (.tmp 3)⟩,
      ⟨(some 5), none, .fldA 1 (.tmp 4)⟩,
      ⟨(some 6), none, .load none (.tmp 5)⟩,
      ⟨(some 7), none, .sdata (.tmp 6)⟩,
      ⟨(some 8), none, .mov (.tmp 0)⟩,
      ⟨(some 9), none, .nilChk (.tmp 8)⟩,
      ⟨(some 10), none, .fldA 1 (.tmp 9)⟩,
      ⟨(some 11), none, .load none (.tmp 10)⟩,
      ⟨(some 12), none, .len false (.tmp 11)⟩] [⟨(some 13), none, .ustr 5 (.tmp 7) (.tmp 12)⟩,
      ⟨(some 2), none, .mov (.tmp 13)⟩] [[], [], [], [], [], [], [], [], [], []] [2])
  (.ret)),
  14, [(2, none)], false⟩
theorem ok35 : FunOK Tryd.prog 35 c35 := ⟨⟨Tryd.f35, _, c35.code, Tryd.func35, rfl, by kernel_rfl, rfl, by kernel_rfl, by kernel_rfl⟩⟩
/- raddle/raddleref01.At -/
def c36 : AFun := ⟨
  .seq (.ops [⟨(some 3), none, .box 24 (.tmp 0)⟩,
      ⟨(some 6), none, .mov (.const (.bool false))⟩] [1, 2, 3])
  (.seq (.ops [⟨(some 7), none, .fldA 2 (.tmp 3)⟩,
      ⟨(some 8), none, .load none (.tmp 7)⟩,
      ⟨(some 9), none, .mov (.tmp 2)⟩,
      ⟨(some 10), none, .fldA 0 (.tmp 3)⟩,
      ⟨(some 11), none, .load none (.tmp 10)⟩,
      ⟨(some 12), none, .bin .mul (.tmp 9) (.tmp 11)⟩,
      ⟨(some 13), none, .mov (.tmp 1)⟩,
      ⟨(some 14), none, .bin .add (.tmp 12) (.tmp 13)⟩,
      ⟨(some 15), none, .idxS 1 (.tmp 8) (.tmp 14)⟩,
      ⟨(some 16), none, .load none (.tmp 15)⟩,
      ⟨(some 6), none, .mov (.tmp 16)⟩] [6])
  (.ret)),
  17, [(6, none)], true⟩
theorem ok36 : FunOK Tryd.prog 36 c36 := ⟨⟨Tryd.f36, _, c36.code, Tryd.func36, rfl, by kernel_rfl, rfl, by kernel_rfl, by kernel_rfl⟩⟩
/- raddle/raddleref02.Decimal -/
def c37l0 : AC :=
  .seq (.seq (.ops [⟨(some 4), none, .mov (.tmp 0)⟩,
          ⟨(some 5), none, .bin .gtr (.tmp 4) (.const (.int .i64 9))⟩] [0, 3, 5])
      (.cond (.tmp 5)
        (.skip)
        (.exit 0)))
      (.block 1
        (.seq (.ops [⟨(some 6), none, .mov (.tmp 0)⟩,
            ⟨(some 7), none, .bin .rem (.tmp 6) (.const (.int .i64 10))⟩,
            ⟨(some 8), none, .bin .add (.const (.int .i64 48)) (.tmp 7)⟩,
            ⟨(some 9), none, .convI .u8 (.tmp 8)⟩,
            ⟨(some 10), none, .mkRow 5 1 1 [(.int .u8 0)] [(0, 1, (.tmp 9))]⟩,
            ⟨(some 11), none, .b2s (.tmp 10)⟩,
            ⟨(some 12), none, .mov (.tmp 3)⟩,
            ⟨(some 13), none, .bin .add (.tmp 11) (.tmp 12)⟩,
            ⟨(some 3), none, .mov (.tmp 13)⟩] [0, 3])
        (.ops [⟨(some 14), none, .mov (.tmp 0)⟩,
            ⟨(some 15), none, .bin .quo (.tmp 14) (.const (.int .i64 10))⟩,
            ⟨(some 0), none, .mov (.tmp 15)⟩] [0, 3])))
def c37 : AFun := ⟨
  .seq (.ops [⟨(some 2), none, .mov (.const (.string ⟨#[]⟩))⟩] [0])
  (.seq (.ops [⟨(some 3), none, .mov (.const (.string ⟨#[]⟩))⟩] [0, 3])
  (.seq (.block 0
    (.loop [0, 3]
      c37l0))
  (.seq (.ops [⟨(some 16), none, .mov (.tmp 0)⟩,
      ⟨(some 17), none, .bin .add (.const (.int .i64 48)) (.tmp 16)⟩,
      ⟨(some 18), none, .convI .u8 (.tmp 17)⟩,
      ⟨(some 19), none, .mkRow 5 1 1 [(.int .u8 0)] [(0, 1, (.tmp 18))]⟩,
      ⟨(some 20), none, .b2s (.tmp 19)⟩,
      ⟨(some 21), none, .mov (.tmp 3)⟩,
      ⟨(some 22), none, .bin .add (.tmp 20) (.tmp 21)⟩,
      ⟨(some 2), none, .mov (.tmp 22)⟩] [2])
  (.ret)))),
  23, [(2, none)], true⟩
theorem ok37 : FunOK Tryd.prog 37 c37 := ⟨⟨Tryd.f37, _, c37.code, Tryd.func37, rfl, by kernel_rfl, rfl, by kernel_rfl, by kernel_rfl⟩⟩
/- raddle/peg.odd -/
def c38l0 : AC :=
  .seq (.ops [⟨(some 9), none, .bin .lss (.tmp 8) (.tmp 7)⟩] [1, 5, 7, 8, 9])
      (.seq (.cond (.tmp 9)
        (.skip)
        (.exit 0))
      (.seq (.block 1
        (.seq (.ops [⟨(some 10), none, .mov (.tmp 8)⟩,
            ⟨(some 6), none, .mov (.tmp 10)⟩] [1, 5, 6, 7, 8])
        (.ops [⟨(some 11), none, .mov (.tmp 5)⟩,
            ⟨(some 12), none, .mov (.tmp 1)⟩,
            ⟨(some 13), none, .mov (.tmp 6)⟩,
            ⟨(some 14), none, .callV (.tmp 12) [(.tmp 13)]⟩,
            ⟨(some 15), none, .eqB true (.tmp 11) (.tmp 14)⟩,
            ⟨(some 5), none, .mov (.tmp 15)⟩] [1, 5, 7, 8])))
      (.ops [⟨(some 16), none, .bin .add (.tmp 8) (.const (.int .i64 1))⟩,
          ⟨(some 8), none, .mov (.tmp 16)⟩] [1, 5, 7, 8])))
def c38 : AFun := ⟨
  .seq (.ops [⟨(some 4), none, .mov (.const (.bool false))⟩] [0, 1])
  (.seq (.ops [⟨(some 5), none, .mov (.const (.bool false))⟩] [0, 1, 5])
  (.seq (.seq (.ops [⟨(some 7), none, .mov (.tmp 0)⟩,
      ⟨(some 8), none, .mov (.const (.int .i64 0))⟩] [1, 5, 7, 8])
  (.block 0
    (.loop [1, 5, 7, 8]
      c38l0)))
  (.seq (.ops [⟨(some 17), none, .mov (.tmp 5)⟩,
      ⟨(some 4), none, .mov (.tmp 17)⟩] [4])
  (.ret)))),
  18, [(4, none)], true⟩
theorem ok38 : FunOK Tryd.prog 38 c38 := ⟨⟨Tryd.f38, _, c38.code, Tryd.func38, rfl, by kernel_rfl, rfl, by kernel_rfl, by kernel_rfl⟩⟩
/- raddle/peg.Encode$1 -/
def c39 : AFun := ⟨
  .seq (.ops [⟨(some 3), none, .mov (.const (.bool false))⟩] [0, 1])
  (.seq (.ops [⟨(some 4), none, .load none (.tmp 1)⟩,
      ⟨(some 5), none, .mov (.tmp 0)⟩,
      ⟨(some 6), none, .idxS 1 (.tmp 4) (.tmp 5)⟩,
      ⟨(some 7), none, .load none (.tmp 6)⟩,
      ⟨(some 3), none, .mov (.tmp 7)⟩] [3])
  (.ret)),
  8, [(3, none)], true⟩
theorem ok39 : FunOK Tryd.prog 39 c39 := ⟨⟨Tryd.f39, _, c39.code, Tryd.func39, rfl, by kernel_rfl, rfl, by kernel_rfl, by kernel_rfl⟩⟩
/- raddle/peg.Encode$2 -/
def c40 : AFun := ⟨
  .seq (.ops [⟨(some 4), none, .mov (.const (.bool false))⟩] [0, 1, 2])
  (.seq (.draw [⟨(some 5), none, .fldA 1 (.tmp 1)⟩,
      ⟨(some 6), none, .load none (.tmp 5)⟩,
      ⟨(some 7), none, .mov (.tmp 0)⟩,
      ⟨(some 8), none, .idxS 1 (.tmp 6) (.tmp 7)⟩,
      ⟨(some 9), none, .load none (.tmp 8)⟩,
      ⟨(some 10), none, .load none (.tmp 2)⟩] [⟨(some 11), none, .idxS 1 (.tmp 9) (.tmp 10)⟩,
      ⟨(some 12), none, .load none (.tmp 11)⟩,
      ⟨(some 4), none, .mov (.tmp 12)⟩] [[], [], [], [], [], []] [4])
  (.ret)),
  13, [(4, none)], true⟩
theorem ok40 : FunOK Tryd.prog 40 c40 := ⟨⟨Tryd.f40, _, c40.code, Tryd.func40, rfl, by kernel_rfl, rfl, by kernel_rfl, by kernel_rfl⟩⟩
/- raddle/raddleref18.Pegs -/
def c41l0 : AC :=
  .seq (.seq (.ops [⟨(some 5), none, .mov (.tmp 4)⟩,
          ⟨(some 6), none, .mov (.tmp 0)⟩,
          ⟨(some 7), none, .len false (.tmp 6)⟩,
          ⟨(some 8), none, .bin .lss (.tmp 5) (.tmp 7)⟩] [0, 3, 4, 8])
      (.cond (.tmp 8)
        (.skip)
        (.exit 0)))
      (.seq (.block 1
        (.seq (.ops [⟨(some 11), none, .mov (.tmp 0)⟩,
            ⟨(some 12), none, .mov (.tmp 4)⟩,
            ⟨(some 13), none, .idxS 1 (.tmp 11) (.tmp 12)⟩,
            ⟨(some 14), none, .load none (.tmp 13)⟩] [0, 3, 4, 14])
        (.cond (.tmp 14)
          (.ops [⟨(some 15), none, .mov (.tmp 3)⟩,
              ⟨(some 16), none, .bin .add (.tmp 15) (.const (.int .i64 1))⟩,
              ⟨(some 3), none, .mov (.tmp 16)⟩] [0, 3, 4])
          (.skip))))
      (.ops [⟨(some 9), none, .mov (.tmp 4)⟩,
          ⟨(some 10), none, .bin .add (.tmp 9) (.const (.int .i64 1))⟩,
          ⟨(some 4), none, .mov (.tmp 10)⟩] [0, 3, 4]))
def c41 : AFun := ⟨
  .seq (.ops [⟨(some 2), none, .mov (.const (.int .i64 0))⟩] [0])
  (.seq (.ops [⟨(some 3), none, .mov (.const (.int .i64 0))⟩] [0, 3])
  (.seq (.seq (.ops [⟨(some 4), none, .mov (.const (.int .i64 0))⟩] [0, 3, 4])
  (.block 0
    (.loop [0, 3, 4]
      c41l0)))
  (.seq (.ops [⟨(some 17), none, .mov (.tmp 3)⟩,
      ⟨(some 2), none, .mov (.tmp 17)⟩] [2])
  (.ret)))),
  18, [(2, none)], true⟩
theorem ok41 : FunOK Tryd.prog 41 c41 := ⟨⟨Tryd.f41, _, c41.code, Tryd.func41, rfl, by kernel_rfl, rfl, by kernel_rfl, by kernel_rfl⟩⟩
/- raddle/raddleref18.Column -/
def c42l0 : AC :=
  .seq (.seq (.ops [⟨(some 7), none, .mov (.tmp 6)⟩,
          ⟨(some 8), none, .mov (.tmp 0)⟩,
          ⟨(some 9), none, .len false (.tmp 8)⟩,
          ⟨(some 10), none, .bin .lss (.tmp 7) (.tmp 9)⟩] [0, 1, 5, 6, 10])
      (.cond (.tmp 10)
        (.skip)
        (.exit 0)))
      (.seq (.block 1
        (.ops [⟨(some 13), none, .mov (.tmp 5)⟩,
            ⟨(some 14), none, .mov (.tmp 0)⟩,
            ⟨(some 15), none, .mov (.tmp 6)⟩,
            ⟨(some 16), none, .idxS 1 (.tmp 14) (.tmp 15)⟩,
            ⟨(some 17), none, .load none (.tmp 16)⟩,
            ⟨(some 18), none, .mov (.tmp 1)⟩,
            ⟨(some 19), none, .idxS 1 (.tmp 17) (.tmp 18)⟩,
            ⟨(some 20), none, .load none (.tmp 19)⟩,
            ⟨(some 21), none, .mkRow 4 1 1 [(.bool false)] [(0, 1, (.tmp 20))]⟩,
            ⟨(some 22), none, .app 4 1 1 (.tmp 13) (.tmp 21)⟩,
            ⟨(some 5), none, .mov (.tmp 22)⟩] [0, 1, 5, 6]))
      (.ops [⟨(some 11), none, .mov (.tmp 6)⟩,
          ⟨(some 12), none, .bin .add (.tmp 11) (.const (.int .i64 1))⟩,
          ⟨(some 6), none, .mov (.tmp 12)⟩] [0, 1, 5, 6]))
def c42 : AFun := ⟨
  .seq (.ops [⟨(some 4), none, .mov (.const (.slice none 0 0))⟩] [0, 1])
  (.seq (.ops [⟨(some 5), none, .mov (.const (.slice none 0 0))⟩] [0, 1, 5])
  (.seq (.seq (.ops [⟨(some 6), none, .mov (.const (.int .i64 0))⟩] [0, 1, 5, 6])
  (.block 0
    (.loop [0, 1, 5, 6]
      c42l0)))
  (.seq (.ops [⟨(some 23), none, .mov (.tmp 5)⟩,
      ⟨(some 4), none, .mov (.tmp 23)⟩] [4])
  (.ret)))),
  24, [(4, none)], true⟩
theorem ok42 : FunOK Tryd.prog 42 c42 := ⟨⟨Tryd.f42, _, c42.code, Tryd.func42, rfl, by kernel_rfl, rfl, by kernel_rfl, by kernel_rfl⟩⟩
/- raddle/grid.Check -/
def c43 : AFun := ⟨
  .seq (.ops [⟨(some 1), none, .box 24 (.tmp 0)⟩,
      ⟨(some 2), none, .mov (.const (.int .i64 0))⟩] [1])
  (.seq (.block 0
    (.seq (.ops [⟨(some 4), none, .fldA 0 (.tmp 1)⟩,
        ⟨(some 5), none, .load none (.tmp 4)⟩,
        ⟨(some 6), none, .fldA 1 (.tmp 1)⟩,
        ⟨(some 7), none, .load none (.tmp 6)⟩,
        ⟨(some 8), none, .mm true (.tmp 5) (.tmp 7)⟩,
        ⟨(some 9), none, .bin .gtr (.tmp 8) (.const (.int .i64 64))⟩,
        ⟨(some 3), none, .mov (.tmp 9)⟩] [1, 3])
    (.cond (.tmp 3)
      (.seq (.ops [⟨(some 2), none, .mov (.const (.int .i64 4))⟩] [2])
      (.ret))
      (.seq (.ops [⟨(some 11), none, .fldA 0 (.tmp 1)⟩,
          ⟨(some 12), none, .load none (.tmp 11)⟩,
          ⟨(some 13), none, .fldA 1 (.tmp 1)⟩,
          ⟨(some 14), none, .load none (.tmp 13)⟩,
          ⟨(some 15), none, .mm false (.tmp 12) (.tmp 14)⟩,
          ⟨(some 16), none, .bin .lss (.tmp 15) (.const (.int .i64 1))⟩,
          ⟨(some 17), none, .mov (.tmp 16)⟩,
          ⟨(some 18), (some (17, false)), .fldA 2 (.tmp 1)⟩,
          ⟨(some 19), (some (17, false)), .load none (.tmp 18)⟩,
          ⟨(some 20), (some (17, false)), .len false (.tmp 19)⟩,
          ⟨(some 21), (some (17, false)), .fldA 0 (.tmp 1)⟩,
          ⟨(some 22), (some (17, false)), .load none (.tmp 21)⟩,
          ⟨(some 23), (some (17, false)), .fldA 1 (.tmp 1)⟩,
          ⟨(some 24), (some (17, false)), .load none (.tmp 23)⟩,
          ⟨(some 25), (some (17, false)), .bin .mul (.tmp 22) (.tmp 24)⟩,
          ⟨(some 26), (some (17, false)), .bin .neq (.tmp 20) (.tmp 25)⟩,
          ⟨(some 27), none, .pick (.tmp 17) (.const (.bool true)) (.tmp 26)⟩,
          ⟨(some 10), none, .mov (.tmp 27)⟩] [10])
      (.cond (.tmp 10)
        (.seq (.ops [⟨(some 2), none, .mov (.const (.int .i64 8))⟩] [2])
        (.ret))
        (.skip))))))
  (.seq (.ops [⟨(some 2), none, .mov (.const (.int .i64 0))⟩] [2])
  (.ret))),
  28, [(2, none)], true⟩
theorem ok43 : FunOK Tryd.prog 43 c43 := ⟨⟨Tryd.f43, _, c43.code, Tryd.func43, rfl, by kernel_rfl, rfl, by kernel_rfl, by kernel_rfl⟩⟩
/- raddle/raddleref01.Check -/
def c44 : AFun := ⟨
  .seq (.ops [⟨(some 1), none, .box 24 (.tmp 0)⟩,
      ⟨(some 2), none, .mov (.const (.int .i64 0))⟩] [1])
  (.seq (.seq (.ops [⟨(some 3), none, .fldA 0 (.tmp 1)⟩,
      ⟨(some 4), none, .load none (.tmp 3)⟩,
      ⟨(some 5), none, .bin .gtr (.tmp 4) (.const (.int .i64 64))⟩,
      ⟨(some 6), none, .mov (.tmp 5)⟩,
      ⟨(some 7), (some (6, false)), .fldA 1 (.tmp 1)⟩,
      ⟨(some 8), (some (6, false)), .load none (.tmp 7)⟩,
      ⟨(some 9), (some (6, false)), .bin .gtr (.tmp 8) (.const (.int .i64 64))⟩,
      ⟨(some 10), none, .pick (.tmp 6) (.const (.bool true)) (.tmp 9)⟩] [1, 10])
  (.cond (.tmp 10)
    (.seq (.ops [⟨(some 2), none, .mov (.const (.int .i64 4))⟩] [2])
    (.ret))
    (.skip)))
  (.seq (.seq (.ops [⟨(some 11), none, .fldA 0 (.tmp 1)⟩,
      ⟨(some 12), none, .load none (.tmp 11)⟩,
      ⟨(some 13), none, .bin .lss (.tmp 12) (.const (.int .i64 1))⟩,
      ⟨(some 14), none, .mov (.tmp 13)⟩,
      ⟨(some 15), (some (14, false)), .fldA 1 (.tmp 1)⟩,
      ⟨(some 16), (some (14, false)), .load none (.tmp 15)⟩,
      ⟨(some 17), (some (14, false)), .bin .lss (.tmp 16) (.const (.int .i64 1))⟩,
      ⟨(some 18), none, .pick (.tmp 14) (.const (.bool true)) (.tmp 17)⟩,
      ⟨(some 19), none, .mov (.tmp 18)⟩,
      ⟨(some 20), (some (19, false)), .fldA 2 (.tmp 1)⟩,
      ⟨(some 21), (some (19, false)), .load none (.tmp 20)⟩,
      ⟨(some 22), (some (19, false)), .len false (.tmp 21)⟩,
      ⟨(some 23), (some (19, false)), .fldA 0 (.tmp 1)⟩,
      ⟨(some 24), (some (19, false)), .load none (.tmp 23)⟩,
      ⟨(some 25), (some (19, false)), .fldA 1 (.tmp 1)⟩,
      ⟨(some 26), (some (19, false)), .load none (.tmp 25)⟩,
      ⟨(some 27), (some (19, false)), .bin .mul (.tmp 24) (.tmp 26)⟩,
      ⟨(some 28), (some (19, false)), .bin .neq (.tmp 22) (.tmp 27)⟩,
      ⟨(some 29), none, .pick (.tmp 19) (.const (.bool true)) (.tmp 28)⟩] [29])
  (.cond (.tmp 29)
    (.seq (.ops [⟨(some 2), none, .mov (.const (.int .i64 8))⟩] [2])
    (.ret))
    (.skip)))
  (.seq (.ops [⟨(some 2), none, .mov (.const (.int .i64 0))⟩] [2])
  (.ret)))),
  30, [(2, none)], true⟩
theorem ok44 : FunOK Tryd.prog 44 c44 := ⟨⟨Tryd.f44, _, c44.code, Tryd.func44, rfl, by kernel_rfl, rfl, by kernel_rfl, by kernel_rfl⟩⟩
/- raddle/raddlelaw18.two -/
def c45 : AFun := ⟨
  .seq (.ops [⟨(some 0), none, .alloc 24 [(2, (.int .i64 0)), (1, (.slice none 0 0))]⟩] [0])
  (.seq (.ops [⟨(some 1), none, .mkRow 4 1 4 [(.bool false)] [(0, 1, (.const (.bool true))), (1, 1, (.const (.bool false))), (2, 1, (.const (.bool true))), (3, 1, (.const (.bool true)))]⟩,
      ⟨(some 2), none, .build [(.int .i64 0), (.int .i64 0), (.slice none 0 0)] [(0, 1, (.const (.int .i64 2))), (1, 1, (.const (.int .i64 2))), (2, 1, (.tmp 1))]⟩,
      ⟨none, none, .store 3 (.tmp 0) (.tmp 2)⟩] [0])
  (.ret)),
  3, [(0, (some (some 3)))], true⟩
theorem ok45 : FunOK Tryd.prog 45 c45 := ⟨⟨Tryd.f45, _, c45.code, Tryd.func45, rfl, by kernel_rfl, rfl, by kernel_rfl, by kernel_rfl⟩⟩
/- raddle/raddleref02.Same -/
def c46l0 : AC :=
  .seq (.seq (.ops [⟨(some 11), none, .mov (.tmp 5)⟩,
          ⟨(some 12), none, .mov (.tmp 0)⟩,
          ⟨(some 13), none, .len false (.tmp 12)⟩,
          ⟨(some 14), none, .bin .lss (.tmp 11) (.tmp 13)⟩] [0, 1, 5, 14])
      (.cond (.tmp 14)
        (.skip)
        (.exit 0)))
      (.seq (.block 1
        (.seq (.draw [⟨(some 17), none, .mov (.tmp 0)⟩,
            ⟨(some 18), none, .mov (.tmp 5)⟩,
            ⟨(some 19), none, .idxS 1 (.tmp 17) (.tmp 18)⟩,
            ⟨(some 20), none, .load none (.tmp 19)⟩,
            ⟨(some 21), none, .mov (.tmp 1)⟩,
            ⟨(some 22), none, .mov (.tmp 5)⟩,
            ⟨(some 23), none, .idxS 1 (.tmp 21) (.tmp 22)⟩,
            ⟨(some 24), none, .load none (.tmp 23)⟩] [⟨(some 25), none, .bin .neq (.tmp 20) (.tmp 24)⟩] [[], [], [], [], [], [], [], []] [0, 1, 5, 25])
        (.cond (.tmp 25)
          (.seq (.ops [⟨(some 4), none, .mov (.const (.bool false))⟩] [4])
          (.ret))
          (.skip))))
      (.ops [⟨(some 15), none, .mov (.tmp 5)⟩,
          ⟨(some 16), none, .bin .add (.tmp 15) (.const (.int .i64 1))⟩,
          ⟨(some 5), none, .mov (.tmp 16)⟩] [0, 1, 5]))
def c46 : AFun := ⟨
  .seq (.ops [⟨(some 4), none, .mov (.const (.bool false))⟩] [0, 1])
  (.seq (.seq (.ops [⟨(some 6), none, .mov (.tmp 0)⟩,
      ⟨(some 7), none, .len false (.tmp 6)⟩,
      ⟨(some 8), none, .mov (.tmp 1)⟩,
      ⟨(some 9), none, .len false (.tmp 8)⟩,
      ⟨(some 10), none, .bin .neq (.tmp 7) (.tmp 9)⟩] [0, 1, 10])
  (.cond (.tmp 10)
    (.seq (.ops [⟨(some 4), none, .mov (.const (.bool false))⟩] [4])
    (.ret))
    (.skip)))
  (.seq (.seq (.ops [⟨(some 5), none, .mov (.const (.int .i64 0))⟩] [0, 1, 5])
  (.block 0
    (.loop [0, 1, 5]
      c46l0)))
  (.seq (.ops [⟨(some 4), none, .mov (.const (.bool true))⟩] [4])
  (.ret)))),
  26, [(4, none)], true⟩
theorem ok46 : FunOK Tryd.prog 46 c46 := ⟨⟨Tryd.f46, _, c46.code, Tryd.func46, rfl, by kernel_rfl, rfl, by kernel_rfl, by kernel_rfl⟩⟩
/- strings.CutSuffix -/
def c47 : AFun := ⟨
  .seq (.ops [⟨(some 4), none, .mov (.const (.string ⟨#[]⟩))⟩,
      ⟨(some 5), none, .mov (.const (.bool false))⟩] [0, 1])
  (.seq (.ops [⟨(some 6), none, .mov (.tmp 0)⟩,
      ⟨(some 7), none, .mov (.tmp 1)⟩,
      ⟨(some 8), none, .callF 59 [(.tmp 6), (.tmp 7)]⟩,
      ⟨(some 9), none, .ext (.tmp 8) 0⟩,
      ⟨(some 10), none, .ext (.tmp 8) 1⟩,
      ⟨(some 4), none, .mov (.tmp 9)⟩,
      ⟨(some 5), none, .mov (.tmp 10)⟩] [4, 5])
  (.ret)),
  11, [(4, none), (5, none)], true⟩
theorem ok47 : FunOK Tryd.prog 47 c47 := ⟨⟨Tryd.f47, _, c47.code, Tryd.func47, rfl, by kernel_rfl, rfl, by kernel_rfl, by kernel_rfl⟩⟩
/- strings.Split -/
def c48 : AFun := ⟨
  .seq (.ops [⟨(some 4), none, .mov (.const (.slice none 0 0))⟩] [0, 1])
  (.seq (.ops [⟨(some 5), none, .mov (.tmp 0)⟩,
      ⟨(some 6), none, .mov (.tmp 1)⟩,
      ⟨(some 7), none, .callF 60 [(.tmp 5), (.tmp 6), (.const (.int .i64 0)), (.const (.int .i64 (-1)))]⟩,
      ⟨(some 4), none, .mov (.tmp 7)⟩] [4])
  (.ret)),
  8, [(4, none)], true⟩
theorem ok48 : FunOK Tryd.prog 48 c48 := ⟨⟨Tryd.f48, _, c48.code, Tryd.func48, rfl, by kernel_rfl, rfl, by kernel_rfl, by kernel_rfl⟩⟩
/- strings.SplitSeq -/
def c49 : AFun := ⟨
  .seq (.ops [⟨(some 4), none, .mov (.const .nilFunc)⟩] [0, 1])
  (.seq (.ops [⟨(some 5), none, .mov (.tmp 0)⟩,
      ⟨(some 6), none, .mov (.tmp 1)⟩,
      ⟨(some 7), none, .callF 61 [(.tmp 5), (.tmp 6), (.const (.int .i64 0))]⟩,
      ⟨(some 4), none, .mov (.tmp 7)⟩] [4])
  (.ret)),
  8, [(4, none)], true⟩
theorem ok49 : FunOK Tryd.prog 49 c49 := ⟨⟨Tryd.f49, _, c49.code, Tryd.func49, rfl, by kernel_rfl, rfl, by kernel_rfl, by kernel_rfl⟩⟩
/- raddle/peg.valid -/
def c52 : AFun := ⟨
  .seq (.ops [⟨(some 1), none, .box 34 (.tmp 0)⟩,
      ⟨(some 2), none, .mov (.const (.bool false))⟩] [1])
  (.seq (.seq (.ops [⟨(some 3), none, .fldA 0 (.tmp 1)⟩,
      ⟨(some 4), none, .load none (.tmp 3)⟩,
      ⟨(some 5), none, .bin .lss (.tmp 4) (.const (.int .i64 1))⟩,
      ⟨(some 6), none, .mov (.tmp 5)⟩,
      ⟨(some 7), (some (6, false)), .fldA 0 (.tmp 1)⟩,
      ⟨(some 8), (some (6, false)), .load none (.tmp 7)⟩,
      ⟨(some 9), (some (6, false)), .bin .gtr (.tmp 8) (.const (.int .i64 40))⟩,
      ⟨(some 10), none, .pick (.tmp 6) (.const (.bool true)) (.tmp 9)⟩,
      ⟨(some 11), none, .mov (.tmp 10)⟩,
      ⟨(some 12), (some (11, false)), .fldA 1 (.tmp 1)⟩,
      ⟨(some 13), (some (11, false)), .load none (.tmp 12)⟩,
      ⟨(some 14), (some (11, false)), .len false (.tmp 13)⟩,
      ⟨(some 15), (some (11, false)), .bin .lss (.tmp 14) (.const (.int .i64 2))⟩,
      ⟨(some 16), none, .pick (.tmp 11) (.const (.bool true)) (.tmp 15)⟩,
      ⟨(some 17), none, .mov (.tmp 16)⟩,
      ⟨(some 18), (some (17, false)), .fldA 1 (.tmp 1)⟩,
      ⟨(some 19), (some (17, false)), .load none (.tmp 18)⟩,
      ⟨(some 20), (some (17, false)), .len false (.tmp 19)⟩,
      ⟨(some 21), (some (17, false)), .bin .gtr (.tmp 20) (.const (.int .i64 65))⟩,
      ⟨(some 22), none, .pick (.tmp 17) (.const (.bool true)) (.tmp 21)⟩] [1, 22])
  (.cond (.tmp 22)
    (.seq (.ops [⟨(some 2), none, .mov (.const (.bool false))⟩] [2])
    (.ret))
    (.skip)))
  (.seq (.ops [⟨(some 23), none, .fldA 1 (.tmp 1)⟩,
      ⟨(some 24), none, .load none (.tmp 23)⟩,
      ⟨(some 25), none, .mkFn 66 [] [(.tmp 1)]⟩,
      ⟨(some 26), none, .callF 65 [(.tmp 24), (.tmp 25)]⟩,
      ⟨(some 27), none, .un .not (.tmp 26)⟩,
      ⟨(some 2), none, .mov (.tmp 27)⟩] [2])
  (.ret))),
  28, [(2, none)], true⟩
theorem ok52 : FunOK Tryd.prog 52 c52 := ⟨⟨Tryd.f52, _, c52.code, Tryd.func52, rfl, by kernel_rfl, rfl, by kernel_rfl, by kernel_rfl⟩⟩
/- (*strings.Builder).WriteByte -/
def c53 : AFun := ⟨
  .seq (.ops [⟨(some 4), none, .mov (.const .nilIface)⟩] [0, 1])
  (.seq (.ops [⟨(some 5), none, .mov (.tmp 0)⟩,
      ⟨(some 6), none, .callF 57 [(.tmp 5)]⟩] [0, 1])
  (.seq (.ops [⟨(some 7), none, .mov (.tmp 0)⟩,
      ⟨(some 8), none, .mov (.tmp 0)⟩,
      ⟨(some 9), none, .nilChk (.tmp 8)⟩,
      ⟨(some 10), none, .fldA 1 (.tmp 9)⟩,
      ⟨(some 11), none, .load none (.tmp 10)⟩,
      ⟨(some 12), none, .mov (.tmp 1)⟩,
      ⟨(some 13), none, .mkRow 5 1 1 [(.int .u8 0)] [(0, 1, (.tmp 12))]⟩,
      ⟨(some 14), none, .app 5 1 1 (.tmp 11) (.tmp 13)⟩,
      ⟨(some 15), none, .nilChk (.tmp 7)⟩,
      ⟨(some 16), none, .fldA 1 (.tmp 15)⟩,
      ⟨none, none, .store 1 (.tmp 16) (.tmp 14)⟩] [])
  (.seq (.ops [⟨(some 4), none, .mov (.const .nilIface)⟩] [4])
  (.ret)))),
  17, [(4, none)], false⟩
theorem ok53 : FunOK Tryd.prog 53 c53 := ⟨⟨Tryd.f53, _, c53.code, Tryd.func53, rfl, by kernel_rfl, rfl, by kernel_rfl, by kernel_rfl⟩⟩
/- raddle/peg.Wrong$1 -/
def c54 : AFun := ⟨
  .seq (.ops [⟨(some 3), none, .mov (.const (.bool false))⟩] [0, 1])
  (.seq (.ops [⟨(some 4), none, .load none (.tmp 1)⟩,
      ⟨(some 5), none, .mov (.tmp 0)⟩,
      ⟨(some 6), none, .idxS 1 (.tmp 4) (.tmp 5)⟩,
      ⟨(some 7), none, .load none (.tmp 6)⟩,
      ⟨(some 3), none, .mov (.tmp 7)⟩] [3])
  (.ret)),
  8, [(3, none)], true⟩
theorem ok54 : FunOK Tryd.prog 54 c54 := ⟨⟨Tryd.f54, _, c54.code, Tryd.func54, rfl, by kernel_rfl, rfl, by kernel_rfl, by kernel_rfl⟩⟩
/- raddle/peg.Wrong$2 -/
def c55 : AFun := ⟨
  .seq (.ops [⟨(some 4), none, .mov (.const (.bool false))⟩] [0, 1, 2])
  (.seq (.draw [⟨(some 5), none, .fldA 1 (.tmp 1)⟩,
      ⟨(some 6), none, .load none (.tmp 5)⟩,
      ⟨(some 7), none, .mov (.tmp 0)⟩,
      ⟨(some 8), none, .idxS 1 (.tmp 6) (.tmp 7)⟩,
      ⟨(some 9), none, .load none (.tmp 8)⟩,
      ⟨(some 10), none, .load none (.tmp 2)⟩] [⟨(some 11), none, .idxS 1 (.tmp 9) (.tmp 10)⟩,
      ⟨(some 12), none, .load none (.tmp 11)⟩,
      ⟨(some 4), none, .mov (.tmp 12)⟩] [[], [], [], [], [], []] [4])
  (.ret)),
  13, [(4, none)], true⟩
theorem ok55 : FunOK Tryd.prog 55 c55 := ⟨⟨Tryd.f55, _, c55.code, Tryd.func55, rfl, by kernel_rfl, rfl, by kernel_rfl, by kernel_rfl⟩⟩
/- internal/strconv.Itoa -/
def c56 : AFun := ⟨
  .seq (.ops [⟨(some 2), none, .mov (.const (.string ⟨#[]⟩))⟩] [0])
  (.seq (.ops [⟨(some 3), none, .mov (.tmp 0)⟩,
      ⟨(some 4), none, .callF 67 [(.tmp 3), (.const (.int .i64 10))]⟩,
      ⟨(some 2), none, .mov (.tmp 4)⟩] [2])
  (.ret)),
  5, [(2, none)], true⟩
theorem ok56 : FunOK Tryd.prog 56 c56 := ⟨⟨Tryd.f56, _, c56.code, Tryd.func56, rfl, by kernel_rfl, rfl, by kernel_rfl, by kernel_rfl⟩⟩
/- (*strings.Builder).copyCheck (1 operations that the interpreter lacks) -/
def c57 : AFun := ⟨
  .seq (.ops [⟨(some 2), none, .mov (.tmp 0)⟩,
      ⟨(some 3), none, .nilChk (.tmp 2)⟩,
      ⟨(some 4), none, .fldA 0 (.tmp 3)⟩,
      ⟨(some 5), none, .load none (.tmp 4)⟩,
      ⟨(some 6), none, .eqNil 0 false (.tmp 5) (.const (.pointer none))⟩] [0, 6])
  (.cond (.tmp 6)
    (.ops [⟨(some 7), none, .mov (.tmp 0)⟩,
        ⟨(some 8), none, .mov (.tmp 0)⟩,
        ⟨(some 9), none, .toUns (.tmp 8)⟩,
        ⟨(some 10), none, .callF 68 [(.tmp 9)]⟩,
        ⟨(some 11), none, .fromUns 69 2 (.tmp 10)⟩,
        ⟨(some 12), none, .nilChk (.tmp 7)⟩,
        ⟨(some 13), none, .fldA 0 (.tmp 12)⟩,
        ⟨none, none, .store 1 (.tmp 13) (.tmp 11)⟩] [])
    (.seq (.ops [⟨(some 14), none, .mov (.tmp 0)⟩,
        ⟨(some 15), none, .nilChk (.tmp 14)⟩,
        ⟨(some 16), none, .fldA 0 (.tmp 15)⟩,
        ⟨(some 17), none, .load none (.tmp 16)⟩,
        ⟨(some 18), none, .mov (.tmp 0)⟩,
        ⟨(some 19), none, .eqPtr true (.tmp 17) (.tmp 18)⟩] [19])
    (.cond (.tmp 19)
      (.bad)
      (.skip)))),
  20, [], false⟩
theorem ok57 : FunOK Tryd.prog 57 c57 := ⟨⟨Tryd.f57, _, c57.code, Tryd.func57, rfl, by kernel_rfl, rfl, by kernel_rfl, by kernel_rfl⟩⟩
/- (*strings.Builder).Grow (1 operations that the interpreter lacks) -/
def c58 : AFun := ⟨
  .seq (.ops [⟨(some 4), none, .mov (.tmp 0)⟩,
      ⟨(some 5), none, .callF 57 [(.tmp 4)]⟩] [0, 1])
  (.seq (.seq (.ops [⟨(some 6), none, .mov (.tmp 1)⟩,
      ⟨(some 7), none, .bin .lss (.tmp 6) (.const (.int .i64 0))⟩] [0, 1, 7])
  (.cond (.tmp 7)
    (.ops [⟨(some 8), none, .mkIf 9 (.const (.string ⟨#[115, 116, 114, 105, 110, 103, 115, 46, 66, 117, 105, 108, 100, 101, 114, 46, 71, 114, 111, 119, 58, 32, 110, 101, 103, 97, 116, 105, 118, 101, 32, 99, 111, 117, 110, 116]⟩))⟩,
        ⟨none, none, .bad⟩] [0, 1])
    (.skip)))
  (.seq (.draw [⟨(some 9), none, .mov (.tmp 0)⟩,
      ⟨(some 10), none, .nilChk (.tmp 9)⟩,
      ⟨(some 11), none, .fldA 1 (.tmp 10)⟩,
      ⟨(some 12), none, .load none (.tmp 11)⟩,
      ⟨(some 13), none, .cap (.tmp 12)⟩,
      ⟨(some 14), none, .mov (.tmp 0)⟩,
      ⟨(some 15), none, .nilChk (.tmp 14)⟩,
      ⟨(some 16), none, .fldA 1 (.tmp 15)⟩,
      ⟨(some 17), none, .load none (.tmp 16)⟩,
      ⟨(some 18), none, .len false (.tmp 17)⟩,
      ⟨(some 19), none, .bin .sub (.tmp 13) (.tmp 18)⟩,
      ⟨(some 20), none, .mov (.tmp 1)⟩] [⟨(some 21), none, .bin .lss (.tmp 19) (.tmp 20)⟩] [[], [], [], [], [], [], [], [], [], [], [], []] [0, 1, 21])
  (.cond (.tmp 21)
    (.ops [⟨(some 22), none, .mov (.tmp 0)⟩,
        ⟨(some 23), none, .mov (.tmp 1)⟩,
        ⟨(some 24), none, .callF 69 [(.tmp 22), (.tmp 23)]⟩] [])
    (.skip)))),
  25, [], false⟩
theorem ok58 : FunOK Tryd.prog 58 c58 := ⟨⟨Tryd.f58, _, c58.code, Tryd.func58, rfl, by kernel_rfl, rfl, by kernel_rfl, by kernel_rfl⟩⟩
/- internal/stringslite.CutSuffix -/
def c59 : AFun := ⟨
  .seq (.ops [⟨(some 4), none, .mov (.const (.string ⟨#[]⟩))⟩,
      ⟨(some 5), none, .mov (.const (.bool false))⟩] [0, 1])
  (.seq (.seq (.ops [⟨(some 6), none, .mov (.tmp 0)⟩,
      ⟨(some 7), none, .mov (.tmp 1)⟩,
      ⟨(some 8), none, .callF 70 [(.tmp 6), (.tmp 7)]⟩,
      ⟨(some 9), none, .un .not (.tmp 8)⟩] [0, 1, 9])
  (.cond (.tmp 9)
    (.seq (.ops [⟨(some 10), none, .mov (.tmp 0)⟩,
        ⟨(some 4), none, .mov (.tmp 10)⟩,
        ⟨(some 5), none, .mov (.const (.bool false))⟩] [4, 5])
    (.ret))
    (.skip)))
  (.seq (.ops [⟨(some 11), none, .mov (.tmp 0)⟩,
      ⟨(some 12), none, .mov (.tmp 0)⟩,
      ⟨(some 13), none, .len true (.tmp 12)⟩,
      ⟨(some 14), none, .mov (.tmp 1)⟩,
      ⟨(some 15), none, .len true (.tmp 14)⟩,
      ⟨(some 16), none, .bin .sub (.tmp 13) (.tmp 15)⟩,
      ⟨(some 17), none, .slcS (.tmp 11) none (some (.tmp 16))⟩,
      ⟨(some 4), none, .mov (.tmp 17)⟩,
      ⟨(some 5), none, .mov (.const (.bool true))⟩] [4, 5])
  (.ret))),
  18, [(4, none), (5, none)], true⟩
theorem ok59 : FunOK Tryd.prog 59 c59 := ⟨⟨Tryd.f59, _, c59.code, Tryd.func59, rfl, by kernel_rfl, rfl, by kernel_rfl, by kernel_rfl⟩⟩
/- strings.genSplit -/
def c60l0 : AC :=
  .seq (.seq (.ops [⟨(some 34), none, .mov (.tmp 10)⟩,
          ⟨(some 35), none, .mov (.tmp 3)⟩,
          ⟨(some 36), none, .bin .lss (.tmp 34) (.tmp 35)⟩] [0, 1, 2, 3, 9, 10, 36])
      (.cond (.tmp 36)
        (.skip)
        (.exit 0)))
      (.block 1
        (.seq (.ops [⟨(some 37), none, .mov (.tmp 0)⟩,
            ⟨(some 38), none, .mov (.tmp 1)⟩,
            ⟨(some 39), none, .callF 73 [(.tmp 37), (.tmp 38)]⟩,
            ⟨(some 11), none, .mov (.tmp 39)⟩] [0, 1, 2, 3, 9, 10, 11])
        (.seq (.seq (.ops [⟨(some 40), none, .mov (.tmp 11)⟩,
            ⟨(some 41), none, .bin .lss (.tmp 40) (.const (.int .i64 0))⟩] [0, 1, 2, 3, 9, 10, 11, 41])
        (.cond (.tmp 41)
          (.exit 0)
          (.skip)))
        (.seq (.ops [⟨(some 42), none, .mov (.tmp 9)⟩,
            ⟨(some 43), none, .mov (.tmp 10)⟩,
            ⟨(some 44), none, .mov (.tmp 0)⟩,
            ⟨(some 45), none, .mov (.tmp 11)⟩,
            ⟨(some 46), none, .mov (.tmp 2)⟩,
            ⟨(some 47), none, .bin .add (.tmp 45) (.tmp 46)⟩,
            ⟨(some 48), none, .slcS (.tmp 44) none (some (.tmp 47))⟩,
            ⟨(some 49), none, .idxS 1 (.tmp 42) (.tmp 43)⟩,
            ⟨none, none, .store 1 (.tmp 49) (.tmp 48)⟩] [0, 1, 2, 3, 9, 10, 11])
        (.seq (.ops [⟨(some 50), none, .mov (.tmp 0)⟩,
            ⟨(some 51), none, .mov (.tmp 11)⟩,
            ⟨(some 52), none, .mov (.tmp 1)⟩,
            ⟨(some 53), none, .len true (.tmp 52)⟩,
            ⟨(some 54), none, .bin .add (.tmp 51) (.tmp 53)⟩,
            ⟨(some 55), none, .slcS (.tmp 50) (some (.tmp 54)) none⟩,
            ⟨(some 0), none, .mov (.tmp 55)⟩] [0, 1, 2, 3, 9, 10])
        (.ops [⟨(some 56), none, .mov (.tmp 10)⟩,
            ⟨(some 57), none, .bin .add (.tmp 56) (.const (.int .i64 1))⟩,
            ⟨(some 10), none, .mov (.tmp 57)⟩] [0, 1, 2, 3, 9, 10]))))))
def c60 : AFun := ⟨
  .seq (.ops [⟨(some 8), none, .mov (.const (.slice none 0 0))⟩] [0, 1, 2, 3])
  (.seq (.seq (.ops [⟨(some 12), none, .mov (.tmp 3)⟩,
      ⟨(some 13), none, .bin .eql (.tmp 12) (.const (.int .i64 0))⟩] [0, 1, 2, 3, 13])
  (.cond (.tmp 13)
    (.seq (.ops [⟨(some 8), none, .mov (.const (.slice none 0 0))⟩] [8])
    (.ret))
    (.skip)))
  (.seq (.seq (.ops [⟨(some 14), none, .mov (.tmp 1)⟩,
      ⟨(some 15), none, .bin .eql (.tmp 14) (.const (.string ⟨#[]⟩))⟩] [0, 1, 2, 3, 15])
  (.cond (.tmp 15)
    (.seq (.ops [⟨(some 16), none, .mov (.tmp 0)⟩,
        ⟨(some 17), none, .mov (.tmp 3)⟩,
        ⟨(some 18), none, .callF 71 [(.tmp 16), (.tmp 17)]⟩,
        ⟨(some 8), none, .mov (.tmp 18)⟩] [8])
    (.ret))
    (.skip)))
  (.seq (.seq (.ops [⟨(some 19), none, .mov (.tmp 3)⟩,
      ⟨(some 20), none, .bin .lss (.tmp 19) (.const (.int .i64 0))⟩] [0, 1, 2, 3, 20])
  (.cond (.tmp 20)
    (.ops [⟨(some 21), none, .mov (.tmp 0)⟩,
        ⟨(some 22), none, .mov (.tmp 1)⟩,
        ⟨(some 23), none, .callF 72 [(.tmp 21), (.tmp 22)]⟩,
        ⟨(some 24), none, .bin .add (.tmp 23) (.const (.int .i64 1))⟩,
        ⟨(some 3), none, .mov (.tmp 24)⟩] [0, 1, 2, 3])
    (.skip)))
  (.seq (.ops [⟨(some 25), none, .mov (.tmp 3)⟩,
      ⟨(some 26), none, .mov (.tmp 0)⟩,
      ⟨(some 27), none, .len true (.tmp 26)⟩,
      ⟨(some 28), none, .bin .add (.tmp 27) (.const (.int .i64 1))⟩,
      ⟨(some 29), none, .mm false (.tmp 25) (.tmp 28)⟩,
      ⟨(some 3), none, .mov (.tmp 29)⟩] [0, 1, 2, 3])
  (.seq (.ops [⟨(some 30), none, .mov (.tmp 3)⟩,
      ⟨(some 31), none, .mkSlice 9 1 16 [(.string ⟨#[]⟩)] (.tmp 30) (.tmp 30)⟩,
      ⟨(some 9), none, .mov (.tmp 31)⟩] [0, 1, 2, 3, 9])
  (.seq (.ops [⟨(some 32), none, .mov (.tmp 3)⟩,
      ⟨(some 33), none, .bin .sub (.tmp 32) (.const (.int .i64 1))⟩,
      ⟨(some 3), none, .mov (.tmp 33)⟩] [0, 1, 2, 3, 9])
  (.seq (.ops [⟨(some 10), none, .mov (.const (.int .i64 0))⟩] [0, 1, 2, 3, 9, 10])
  (.seq (.block 0
    (.loop [0, 1, 2, 3, 9, 10]
      c60l0))
  (.seq (.ops [⟨(some 58), none, .mov (.tmp 9)⟩,
      ⟨(some 59), none, .mov (.tmp 10)⟩,
      ⟨(some 60), none, .mov (.tmp 0)⟩,
      ⟨(some 61), none, .idxS 1 (.tmp 58) (.tmp 59)⟩,
      ⟨none, none, .store 1 (.tmp 61) (.tmp 60)⟩] [9, 10])
  (.seq (.ops [⟨(some 62), none, .mov (.tmp 9)⟩,
      ⟨(some 63), none, .mov (.tmp 10)⟩,
      ⟨(some 64), none, .bin .add (.tmp 63) (.const (.int .i64 1))⟩,
      ⟨(some 65), none, .slc 1 (.tmp 62) none (some (.tmp 64)) none⟩,
      ⟨(some 8), none, .mov (.tmp 65)⟩] [8])
  (.ret))))))))))),
  66, [(8, none)], true⟩
theorem ok60 : FunOK Tryd.prog 60 c60 := ⟨⟨Tryd.f60, _, c60.code, Tryd.func60, rfl, by kernel_rfl, rfl, by kernel_rfl, by kernel_rfl⟩⟩
/- strings.splitSeq -/
def c61 : AFun := ⟨
  .seq (.ops [⟨(some 3), none, .box 9 (.tmp 0)⟩,
      ⟨(some 4), none, .box 9 (.tmp 1)⟩,
      ⟨(some 5), none, .box 3 (.tmp 2)⟩,
      ⟨(some 6), none, .mov (.const .nilFunc)⟩] [3, 4, 5])
  (.seq (.ops [⟨(some 7), none, .mkFn 74 [] [(.tmp 4), (.tmp 3), (.tmp 5)]⟩,
      ⟨(some 6), none, .mov (.tmp 7)⟩] [6])
  (.ret)),
  8, [(6, none)], true⟩
theorem ok61 : FunOK Tryd.prog 61 c61 := ⟨⟨Tryd.f61, _, c61.code, Tryd.func61, rfl, by kernel_rfl, rfl, by kernel_rfl, by kernel_rfl⟩⟩
/- slices.ContainsFunc[[][]bool,[]bool] -/
def c65 : AFun := ⟨
  .seq (.ops [⟨(some 4), none, .mov (.const (.bool false))⟩] [0, 1])
  (.seq (.ops [⟨(some 5), none, .mov (.tmp 0)⟩,
      ⟨(some 6), none, .mov (.tmp 1)⟩,
      ⟨(some 7), none, .callF 81 [(.tmp 5), (.tmp 6)]⟩,
      ⟨(some 8), none, .bin .geq (.tmp 7) (.const (.int .i64 0))⟩,
      ⟨(some 4), none, .mov (.tmp 8)⟩] [4])
  (.ret)),
  9, [(4, none)], true⟩
theorem ok65 : FunOK Tryd.prog 65 c65 := ⟨⟨Tryd.f65, _, c65.code, Tryd.func65, rfl, by kernel_rfl, rfl, by kernel_rfl, by kernel_rfl⟩⟩
/- raddle/peg.valid$1 -/
def c66 : AFun := ⟨
  .seq (.ops [⟨(some 3), none, .mov (.const (.bool false))⟩] [0, 1])
  (.seq (.ops [⟨(some 4), none, .mov (.tmp 0)⟩,
      ⟨(some 5), none, .len false (.tmp 4)⟩,
      ⟨(some 6), none, .fldA 0 (.tmp 1)⟩,
      ⟨(some 7), none, .load none (.tmp 6)⟩,
      ⟨(some 8), none, .bin .add (.tmp 7) (.const (.int .i64 1))⟩,
      ⟨(some 9), none, .bin .neq (.tmp 5) (.tmp 8)⟩,
      ⟨(some 3), none, .mov (.tmp 9)⟩] [3])
  (.ret)),
  10, [(3, none)], true⟩
theorem ok66 : FunOK Tryd.prog 66 c66 := ⟨⟨Tryd.f66, _, c66.code, Tryd.func66, rfl, by kernel_rfl, rfl, by kernel_rfl, by kernel_rfl⟩⟩
/- internal/strconv.FormatInt -/
def c67 : AFun := ⟨
  .seq (.ops [⟨(some 4), none, .mov (.const (.string ⟨#[]⟩))⟩] [0, 1])
  (.seq (.seq (.ops [⟨(some 10), none, .mov (.tmp 1)⟩,
      ⟨(some 11), none, .bin .eql (.tmp 10) (.const (.int .i64 10))⟩] [0, 1, 11])
  (.cond (.tmp 11)
    (.seq (.seq (.ops [⟨(some 12), none, .mov (.tmp 0)⟩,
        ⟨(some 13), none, .bin .leq (.const (.int .i64 0)) (.tmp 12)⟩,
        ⟨(some 14), none, .mov (.tmp 13)⟩,
        ⟨(some 15), (some (14, true)), .mov (.tmp 0)⟩,
        ⟨(some 16), (some (14, true)), .bin .lss (.tmp 15) (.const (.int .i64 100))⟩,
        ⟨(some 17), none, .pick (.tmp 14) (.tmp 16) (.const (.bool false))⟩] [0, 17])
    (.cond (.tmp 17)
      (.seq (.ops [⟨(some 18), none, .mov (.tmp 0)⟩,
          ⟨(some 19), none, .callF 82 [(.tmp 18)]⟩,
          ⟨(some 4), none, .mov (.tmp 19)⟩] [4])
      (.ret))
      (.skip)))
    (.seq (.ops [⟨(some 5), none, .alloc 118 [(24, (.int .u8 0))]⟩] [0, 5])
    (.seq (.ops [⟨(some 20), none, .mov (.tmp 0)⟩,
        ⟨(some 21), none, .convI .u64 (.tmp 20)⟩,
        ⟨(some 6), none, .mov (.tmp 21)⟩] [0, 5, 6])
    (.seq (.seq (.ops [⟨(some 22), none, .mov (.tmp 0)⟩,
        ⟨(some 23), none, .bin .lss (.tmp 22) (.const (.int .i64 0))⟩] [0, 5, 6, 23])
    (.cond (.tmp 23)
      (.ops [⟨(some 24), none, .mov (.tmp 6)⟩,
          ⟨(some 25), none, .un .neg (.tmp 24)⟩,
          ⟨(some 6), none, .mov (.tmp 25)⟩] [0, 5, 6])
      (.skip)))
    (.seq (.ops [⟨(some 26), none, .mov (.tmp 6)⟩,
        ⟨(some 27), none, .callF 83 [(.tmp 26)]⟩,
        ⟨(some 7), none, .mov (.tmp 27)⟩] [0, 5, 6, 7])
    (.seq (.ops [⟨(some 28), none, .mov (.tmp 7)⟩,
        ⟨(some 29), none, .bin .add (.const (.int .i64 1)) (.tmp 28)⟩,
        ⟨(some 30), none, .slcA 24 1 (.tmp 5) (some (.const (.int .i64 1))) (some (.tmp 29))⟩,
        ⟨(some 31), none, .mov (.tmp 6)⟩,
        ⟨(some 32), none, .callF 84 [(.tmp 30), (.tmp 31)]⟩] [0, 5, 7])
    (.seq (.seq (.ops [⟨(some 33), none, .mov (.tmp 0)⟩,
        ⟨(some 34), none, .bin .lss (.tmp 33) (.const (.int .i64 0))⟩] [5, 7, 34])
    (.cond (.tmp 34)
      (.seq (.ops [⟨(some 35), none, .idxA 24 1 (.tmp 5) (.const (.int .i64 0))⟩,
          ⟨none, none, .store 1 (.tmp 35) (.const (.int .u8 45))⟩] [5, 7])
      (.seq (.ops [⟨(some 36), none, .mov (.tmp 7)⟩,
          ⟨(some 37), none, .bin .add (.const (.int .i64 1)) (.tmp 36)⟩,
          ⟨(some 38), none, .slcA 24 1 (.tmp 5) none (some (.tmp 37))⟩,
          ⟨(some 39), none, .b2s (.tmp 38)⟩,
          ⟨(some 4), none, .mov (.tmp 39)⟩] [4])
      (.ret)))
      (.skip)))
    (.seq (.ops [⟨(some 40), none, .mov (.tmp 7)⟩,
        ⟨(some 41), none, .bin .add (.const (.int .i64 1)) (.tmp 40)⟩,
        ⟨(some 42), none, .slcA 24 1 (.tmp 5) (some (.const (.int .i64 1))) (some (.tmp 41))⟩,
        ⟨(some 43), none, .b2s (.tmp 42)⟩,
        ⟨(some 4), none, .mov (.tmp 43)⟩] [4])
    (.ret)))))))))
    (.skip)))
  (.seq (.ops [⟨(some 45), none, .mov (.tmp 0)⟩,
      ⟨(some 46), none, .convI .u64 (.tmp 45)⟩,
      ⟨(some 47), none, .mov (.tmp 1)⟩,
      ⟨(some 48), none, .mov (.tmp 0)⟩,
      ⟨(some 49), none, .bin .lss (.tmp 48) (.const (.int .i64 0))⟩,
      ⟨(some 50), none, .callF 85 [(.const (.slice none 0 0)), (.tmp 46), (.tmp 47), (.tmp 49), (.const (.bool false))]⟩,
      ⟨(some 44), none, .mov (.tmp 50)⟩,
      ⟨(some 51), none, .ext (.tmp 44) 0⟩,
      ⟨(some 52), none, .ext (.tmp 44) 1⟩,
      ⟨(some 8), none, .mov (.tmp 51)⟩,
      ⟨(some 9), none, .mov (.tmp 52)⟩] [9])
  (.seq (.ops [⟨(some 53), none, .mov (.tmp 9)⟩,
      ⟨(some 4), none, .mov (.tmp 53)⟩] [4])
  (.ret)))),
  54, [(4, none)], true⟩
theorem ok67 : FunOK Tryd.prog 67 c67 := ⟨⟨Tryd.f67, _, c67.code, Tryd.func67, rfl, by kernel_rfl, rfl, by kernel_rfl, by kernel_rfl⟩⟩
/- (*strings.Builder).grow -/
def c69 : AFun := ⟨
  .seq (.draw [⟨(some 5), none, .mov (.tmp 0)⟩,
      ⟨(some 6), none, .nilChk (.tmp 5)⟩,
      ⟨(some 7), none, .fldA 1 (.tmp 6)⟩,
      ⟨(some 8), none, .load none (.tmp 7)⟩,
      ⟨(some 9), none, .cap (.tmp 8)⟩,
      ⟨(some 10), none, .bin .mul (.const (.int .i64 2)) (.tmp 9)⟩,
      ⟨(some 11), none, .mov (.tmp 1)⟩,
      ⟨(some 12), none, .bin .add (.tmp 10) (.tmp 11)⟩,
      ⟨(some 13), none, .callF 86 [(.tmp 12)]⟩,
      ⟨(some 14), none, .mov (.tmp 0)⟩,
      ⟨(some 15), none, .nilChk (.tmp 14)⟩,
      ⟨(some 16), none, .fldA 1 (.tmp 15)⟩,
      ⟨(some 17), none, .load none (.tmp 16)⟩,
      ⟨(some 18), none, .len false (.tmp 17)⟩] [⟨(some 19), none, .slc 1 (.tmp 13) none (some (.tmp 18)) none⟩,
      ⟨(some 4), none, .mov (.tmp 19)⟩] [[], [], [], [], [], [], [], [], [], [false, false, false, false, false, false, false, false, false], [true, false, false, false, false, false, false, false, false, false], [true, true, false, false, false, false, false, false, false, false, false], [true, true, true, false, false, false, false, false, false, false, false, false], [true, true, true, true, false, false, false, false, false, false, false, false, false]] [0, 4])
  (.seq (.ops [⟨(some 20), none, .mov (.tmp 4)⟩,
      ⟨(some 21), none, .mov (.tmp 0)⟩,
      ⟨(some 22), none, .nilChk (.tmp 21)⟩,
      ⟨(some 23), none, .fldA 1 (.tmp 22)⟩,
      ⟨(some 24), none, .load none (.tmp 23)⟩,
      ⟨(some 25), none, .copy 1 (.tmp 20) (.tmp 24)⟩] [0, 4])
  (.ops [⟨(some 26), none, .mov (.tmp 0)⟩,
      ⟨(some 27), none, .mov (.tmp 4)⟩,
      ⟨(some 28), none, .nilChk (.tmp 26)⟩,
      ⟨(some 29), none, .fldA 1 (.tmp 28)⟩,
      ⟨none, none, .store 1 (.tmp 29) (.tmp 27)⟩] [])),
  30, [], false⟩
theorem ok69 : FunOK Tryd.prog 69 c69 := ⟨⟨Tryd.f69, _, c69.code, Tryd.func69, rfl, by kernel_rfl, rfl, by kernel_rfl, by kernel_rfl⟩⟩
/- internal/stringslite.HasSuffix -/
def c70 : AFun := ⟨
  .seq (.ops [⟨(some 4), none, .mov (.const (.bool false))⟩] [0, 1])
  (.seq (.ops [⟨(some 5), none, .mov (.tmp 0)⟩,
      ⟨(some 6), none, .len true (.tmp 5)⟩,
      ⟨(some 7), none, .mov (.tmp 1)⟩,
      ⟨(some 8), none, .len true (.tmp 7)⟩,
      ⟨(some 9), none, .bin .geq (.tmp 6) (.tmp 8)⟩,
      ⟨(some 10), none, .mov (.tmp 9)⟩,
      ⟨(some 11), (some (10, true)), .mov (.tmp 0)⟩,
      ⟨(some 12), (some (10, true)), .mov (.tmp 0)⟩,
      ⟨(some 13), (some (10, true)), .len true (.tmp 12)⟩,
      ⟨(some 14), (some (10, true)), .mov (.tmp 1)⟩,
      ⟨(some 15), (some (10, true)), .len true (.tmp 14)⟩,
      ⟨(some 16), (some (10, true)), .bin .sub (.tmp 13) (.tmp 15)⟩,
      ⟨(some 17), (some (10, true)), .slcS (.tmp 11) (some (.tmp 16)) none⟩,
      ⟨(some 18), (some (10, true)), .mov (.tmp 1)⟩,
      ⟨(some 19), (some (10, true)), .bin .eql (.tmp 17) (.tmp 18)⟩,
      ⟨(some 20), none, .pick (.tmp 10) (.tmp 19) (.const (.bool false))⟩,
      ⟨(some 4), none, .mov (.tmp 20)⟩] [4])
  (.ret)),
  21, [(4, none)], true⟩
theorem ok70 : FunOK Tryd.prog 70 c70 := ⟨⟨Tryd.f70, _, c70.code, Tryd.func70, rfl, by kernel_rfl, rfl, by kernel_rfl, by kernel_rfl⟩⟩
/- strings.explode -/
def c71l0 : AC :=
  .seq (.seq (.ops [⟨(some 22), none, .mov (.tmp 7)⟩,
          ⟨(some 23), none, .mov (.tmp 1)⟩,
          ⟨(some 24), none, .bin .sub (.tmp 23) (.const (.int .i64 1))⟩,
          ⟨(some 25), none, .bin .lss (.tmp 22) (.tmp 24)⟩] [0, 1, 6, 7, 25])
      (.cond (.tmp 25)
        (.skip)
        (.exit 0)))
      (.seq (.block 1
        (.seq (.ops [⟨(some 29), none, .mov (.tmp 0)⟩,
            ⟨(some 30), none, .callF 75 [(.tmp 29)]⟩,
            ⟨(some 28), none, .mov (.tmp 30)⟩,
            ⟨(some 31), none, .ext (.tmp 28) 0⟩,
            ⟨(some 32), none, .ext (.tmp 28) 1⟩,
            ⟨(some 8), none, .mov (.tmp 31)⟩,
            ⟨(some 9), none, .mov (.tmp 32)⟩] [0, 1, 6, 7, 9])
        (.seq (.ops [⟨(some 33), none, .mov (.tmp 6)⟩,
            ⟨(some 34), none, .mov (.tmp 7)⟩,
            ⟨(some 35), none, .mov (.tmp 0)⟩,
            ⟨(some 36), none, .mov (.tmp 9)⟩,
            ⟨(some 37), none, .slcS (.tmp 35) none (some (.tmp 36))⟩,
            ⟨(some 38), none, .idxS 1 (.tmp 33) (.tmp 34)⟩,
            ⟨none, none, .store 1 (.tmp 38) (.tmp 37)⟩] [0, 1, 6, 7, 9])
        (.ops [⟨(some 39), none, .mov (.tmp 0)⟩,
            ⟨(some 40), none, .mov (.tmp 9)⟩,
            ⟨(some 41), none, .slcS (.tmp 39) (some (.tmp 40)) none⟩,
            ⟨(some 0), none, .mov (.tmp 41)⟩] [0, 1, 6, 7]))))
      (.ops [⟨(some 26), none, .mov (.tmp 7)⟩,
          ⟨(some 27), none, .bin .add (.tmp 26) (.const (.int .i64 1))⟩,
          ⟨(some 7), none, .mov (.tmp 27)⟩] [0, 1, 6, 7]))
def c71 : AFun := ⟨
  .seq (.ops [⟨(some 4), none, .mov (.const (.slice none 0 0))⟩] [0, 1])
  (.seq (.ops [⟨(some 10), none, .mov (.tmp 0)⟩,
      ⟨(some 11), none, .callF 87 [(.tmp 10)]⟩,
      ⟨(some 5), none, .mov (.tmp 11)⟩] [0, 1, 5])
  (.seq (.seq (.ops [⟨(some 12), none, .mov (.tmp 1)⟩,
      ⟨(some 13), none, .bin .lss (.tmp 12) (.const (.int .i64 0))⟩,
      ⟨(some 14), none, .mov (.tmp 13)⟩,
      ⟨(some 15), (some (14, false)), .mov (.tmp 1)⟩,
      ⟨(some 16), (some (14, false)), .mov (.tmp 5)⟩,
      ⟨(some 17), (some (14, false)), .bin .gtr (.tmp 15) (.tmp 16)⟩,
      ⟨(some 18), none, .pick (.tmp 14) (.const (.bool true)) (.tmp 17)⟩] [0, 1, 5, 18])
  (.cond (.tmp 18)
    (.ops [⟨(some 19), none, .mov (.tmp 5)⟩,
        ⟨(some 1), none, .mov (.tmp 19)⟩] [0, 1])
    (.skip)))
  (.seq (.ops [⟨(some 20), none, .mov (.tmp 1)⟩,
      ⟨(some 21), none, .mkSlice 9 1 16 [(.string ⟨#[]⟩)] (.tmp 20) (.tmp 20)⟩,
      ⟨(some 6), none, .mov (.tmp 21)⟩] [0, 1, 6])
  (.seq (.seq (.ops [⟨(some 7), none, .mov (.const (.int .i64 0))⟩] [0, 1, 6, 7])
  (.block 0
    (.loop [0, 1, 6, 7]
      c71l0)))
  (.seq (.seq (.ops [⟨(some 42), none, .mov (.tmp 1)⟩,
      ⟨(some 43), none, .bin .gtr (.tmp 42) (.const (.int .i64 0))⟩] [0, 1, 6, 43])
  (.cond (.tmp 43)
    (.ops [⟨(some 44), none, .mov (.tmp 6)⟩,
        ⟨(some 45), none, .mov (.tmp 1)⟩,
        ⟨(some 46), none, .bin .sub (.tmp 45) (.const (.int .i64 1))⟩,
        ⟨(some 47), none, .mov (.tmp 0)⟩,
        ⟨(some 48), none, .idxS 1 (.tmp 44) (.tmp 46)⟩,
        ⟨none, none, .store 1 (.tmp 48) (.tmp 47)⟩] [6])
    (.skip)))
  (.seq (.ops [⟨(some 49), none, .mov (.tmp 6)⟩,
      ⟨(some 4), none, .mov (.tmp 49)⟩] [4])
  (.ret))))))),
  50, [(4, none)], true⟩
theorem ok71 : FunOK Tryd.prog 71 c71 := ⟨⟨Tryd.f71, _, c71.code, Tryd.func71, rfl, by kernel_rfl, rfl, by kernel_rfl, by kernel_rfl⟩⟩
/- strings.Count -/
def c72l0 : AC :=
  .block 1
        (.seq (.ops [⟨(some 20), none, .mov (.tmp 0)⟩,
            ⟨(some 21), none, .mov (.tmp 1)⟩,
            ⟨(some 22), none, .callF 73 [(.tmp 20), (.tmp 21)]⟩,
            ⟨(some 6), none, .mov (.tmp 22)⟩] [0, 1, 5, 6])
        (.seq (.seq (.ops [⟨(some 23), none, .mov (.tmp 6)⟩,
            ⟨(some 24), none, .bin .eql (.tmp 23) (.const (.int .i64 (-1)))⟩] [0, 1, 5, 6, 24])
        (.cond (.tmp 24)
          (.seq (.ops [⟨(some 25), none, .mov (.tmp 5)⟩,
              ⟨(some 4), none, .mov (.tmp 25)⟩] [4])
          (.ret))
          (.skip)))
        (.seq (.ops [⟨(some 26), none, .mov (.tmp 5)⟩,
            ⟨(some 27), none, .bin .add (.tmp 26) (.const (.int .i64 1))⟩,
            ⟨(some 5), none, .mov (.tmp 27)⟩] [0, 1, 5, 6])
        (.ops [⟨(some 28), none, .mov (.tmp 0)⟩,
            ⟨(some 29), none, .mov (.tmp 6)⟩,
            ⟨(some 30), none, .mov (.tmp 1)⟩,
            ⟨(some 31), none, .len true (.tmp 30)⟩,
            ⟨(some 32), none, .bin .add (.tmp 29) (.tmp 31)⟩,
            ⟨(some 33), none, .slcS (.tmp 28) (some (.tmp 32)) none⟩,
            ⟨(some 0), none, .mov (.tmp 33)⟩] [0, 1, 5]))))
def c72 : AFun := ⟨
  .seq (.ops [⟨(some 4), none, .mov (.const (.int .i64 0))⟩] [0, 1])
  (.seq (.seq (.ops [⟨(some 7), none, .mov (.tmp 1)⟩,
      ⟨(some 8), none, .len true (.tmp 7)⟩,
      ⟨(some 9), none, .bin .eql (.tmp 8) (.const (.int .i64 0))⟩] [0, 1, 9])
  (.cond (.tmp 9)
    (.seq (.ops [⟨(some 10), none, .mov (.tmp 0)⟩,
        ⟨(some 11), none, .callF 87 [(.tmp 10)]⟩,
        ⟨(some 12), none, .bin .add (.tmp 11) (.const (.int .i64 1))⟩,
        ⟨(some 4), none, .mov (.tmp 12)⟩] [4])
    (.ret))
    (.skip)))
  (.seq (.seq (.ops [⟨(some 13), none, .mov (.tmp 1)⟩,
      ⟨(some 14), none, .len true (.tmp 13)⟩,
      ⟨(some 15), none, .bin .eql (.tmp 14) (.const (.int .i64 1))⟩] [0, 1, 15])
  (.cond (.tmp 15)
    (.seq (.ops [⟨(some 16), none, .mov (.tmp 0)⟩,
        ⟨(some 17), none, .mov (.tmp 1)⟩,
        ⟨(some 18), none, .idxStr (.tmp 17) (.const (.int .i64 0))⟩,
        ⟨(some 19), none, .callF 88 [(.tmp 16), (.tmp 18)]⟩,
        ⟨(some 4), none, .mov (.tmp 19)⟩] [4])
    (.ret))
    (.skip)))
  (.seq (.ops [⟨(some 5), none, .mov (.const (.int .i64 0))⟩] [0, 1, 5])
  (.block 0
    (.loop [0, 1, 5]
      c72l0))))),
  34, [(4, none)], true⟩
theorem ok72 : FunOK Tryd.prog 72 c72 := ⟨⟨Tryd.f72, _, c72.code, Tryd.func72, rfl, by kernel_rfl, rfl, by kernel_rfl, by kernel_rfl⟩⟩
/- strings.Index -/
def c73 : AFun := ⟨
  .seq (.ops [⟨(some 4), none, .mov (.const (.int .i64 0))⟩] [0, 1])
  (.seq (.ops [⟨(some 5), none, .mov (.tmp 0)⟩,
      ⟨(some 6), none, .mov (.tmp 1)⟩,
      ⟨(some 7), none, .callF 89 [(.tmp 5), (.tmp 6)]⟩,
      ⟨(some 4), none, .mov (.tmp 7)⟩] [4])
  (.ret)),
  8, [(4, none)], true⟩
theorem ok73 : FunOK Tryd.prog 73 c73 := ⟨⟨Tryd.f73, _, c73.code, Tryd.func73, rfl, by kernel_rfl, rfl, by kernel_rfl, by kernel_rfl⟩⟩
/- strings.splitSeq$1 -/
def c74l0 : AC :=
  .block 3
        (.seq (.ops [⟨(some 29), none, .load none (.tmp 2)⟩,
            ⟨(some 30), none, .load none (.tmp 1)⟩,
            ⟨(some 31), none, .callF 73 [(.tmp 29), (.tmp 30)]⟩,
            ⟨(some 7), none, .mov (.tmp 31)⟩] [0, 1, 2, 3, 7])
        (.seq (.seq (.ops [⟨(some 32), none, .mov (.tmp 7)⟩,
            ⟨(some 33), none, .bin .lss (.tmp 32) (.const (.int .i64 0))⟩] [0, 1, 2, 3, 7, 33])
        (.cond (.tmp 33)
          (.exit 2)
          (.skip)))
        (.seq (.ops [⟨(some 34), none, .load none (.tmp 2)⟩,
            ⟨(some 35), none, .mov (.tmp 7)⟩,
            ⟨(some 36), none, .load none (.tmp 3)⟩,
            ⟨(some 37), none, .bin .add (.tmp 35) (.tmp 36)⟩,
            ⟨(some 38), none, .slcS (.tmp 34) none (some (.tmp 37))⟩,
            ⟨(some 8), none, .mov (.tmp 38)⟩] [0, 1, 2, 3, 7, 8])
        (.seq (.seq (.ops [⟨(some 39), none, .mov (.tmp 0)⟩,
            ⟨(some 40), none, .mov (.tmp 8)⟩,
            ⟨(some 41), none, .callV (.tmp 39) [(.tmp 40)]⟩,
            ⟨(some 42), none, .un .not (.tmp 41)⟩] [0, 1, 2, 3, 7, 42])
        (.cond (.tmp 42)
          (.ret)
          (.skip)))
        (.ops [⟨(some 43), none, .load none (.tmp 2)⟩,
            ⟨(some 44), none, .mov (.tmp 7)⟩,
            ⟨(some 45), none, .load none (.tmp 1)⟩,
            ⟨(some 46), none, .len true (.tmp 45)⟩,
            ⟨(some 47), none, .bin .add (.tmp 44) (.tmp 46)⟩,
            ⟨(some 48), none, .slcS (.tmp 43) (some (.tmp 47)) none⟩,
            ⟨none, none, .store 1 (.tmp 2) (.tmp 48)⟩] [0, 1, 2, 3])))))
def c74l1 : AC :=
  .seq (.seq (.ops [⟨(some 12), none, .load none (.tmp 2)⟩,
            ⟨(some 13), none, .len true (.tmp 12)⟩,
            ⟨(some 14), none, .bin .gtr (.tmp 13) (.const (.int .i64 0))⟩] [0, 2, 14])
        (.cond (.tmp 14)
          (.skip)
          (.exit 0)))
        (.block 1
          (.seq (.ops [⟨(some 16), none, .load none (.tmp 2)⟩,
              ⟨(some 17), none, .callF 75 [(.tmp 16)]⟩,
              ⟨(some 15), none, .mov (.tmp 17)⟩,
              ⟨(some 18), none, .ext (.tmp 15) 0⟩,
              ⟨(some 19), none, .ext (.tmp 15) 1⟩,
              ⟨(some 5), none, .mov (.tmp 18)⟩,
              ⟨(some 6), none, .mov (.tmp 19)⟩] [0, 2, 6])
          (.seq (.seq (.ops [⟨(some 20), none, .mov (.tmp 0)⟩,
              ⟨(some 21), none, .load none (.tmp 2)⟩,
              ⟨(some 22), none, .mov (.tmp 6)⟩,
              ⟨(some 23), none, .slcS (.tmp 21) none (some (.tmp 22))⟩,
              ⟨(some 24), none, .callV (.tmp 20) [(.tmp 23)]⟩,
              ⟨(some 25), none, .un .not (.tmp 24)⟩] [0, 2, 6, 25])
          (.cond (.tmp 25)
            (.ret)
            (.skip)))
          (.ops [⟨(some 26), none, .load none (.tmp 2)⟩,
              ⟨(some 27), none, .mov (.tmp 6)⟩,
              ⟨(some 28), none, .slcS (.tmp 26) (some (.tmp 27)) none⟩,
              ⟨none, none, .store 1 (.tmp 2) (.tmp 28)⟩] [0, 2]))))
def c74 : AFun := ⟨
  .seq (.seq (.ops [⟨(some 9), none, .load none (.tmp 1)⟩,
      ⟨(some 10), none, .len true (.tmp 9)⟩,
      ⟨(some 11), none, .bin .eql (.tmp 10) (.const (.int .i64 0))⟩] [0, 1, 2, 3, 11])
  (.cond (.tmp 11)
    (.seq (.block 0
      (.loop [0, 2]
        c74l1))
    (.ret))
    (.skip)))
  (.seq (.block 2
    (.loop [0, 1, 2, 3]
      c74l0))
  (.ops [⟨(some 49), none, .mov (.tmp 0)⟩,
      ⟨(some 50), none, .load none (.tmp 2)⟩,
      ⟨(some 51), none, .callV (.tmp 49) [(.tmp 50)]⟩] [])),
  52, [], true⟩
theorem ok74 : FunOK Tryd.prog 74 c74 := ⟨⟨Tryd.f74, _, c74.code, Tryd.func74, rfl, by kernel_rfl, rfl, by kernel_rfl, by kernel_rfl⟩⟩
/- unicode/utf8.DecodeRuneInString -/
def c75 : AFun := ⟨
  .seq (.ops [⟨(some 2), none, .mov (.const (.int .i32 0))⟩,
      ⟨(some 3), none, .mov (.const (.int .i64 0))⟩] [0])
  (.seq (.seq (.ops [⟨(some 4), none, .mov (.tmp 0)⟩,
      ⟨(some 5), none, .bin .neq (.tmp 4) (.const (.string ⟨#[]⟩))⟩,
      ⟨(some 6), none, .mov (.tmp 5)⟩,
      ⟨(some 7), (some (6, true)), .mov (.tmp 0)⟩,
      ⟨(some 8), (some (6, true)), .idxStr (.tmp 7) (.const (.int .i64 0))⟩,
      ⟨(some 9), (some (6, true)), .bin .lss (.tmp 8) (.const (.int .u8 128))⟩,
      ⟨(some 10), none, .pick (.tmp 6) (.tmp 9) (.const (.bool false))⟩] [0, 10])
  (.cond (.tmp 10)
    (.seq (.ops [⟨(some 11), none, .mov (.tmp 0)⟩,
        ⟨(some 12), none, .idxStr (.tmp 11) (.const (.int .i64 0))⟩,
        ⟨(some 13), none, .convI .i32 (.tmp 12)⟩,
        ⟨(some 2), none, .mov (.tmp 13)⟩,
        ⟨(some 3), none, .mov (.const (.int .i64 1))⟩] [2, 3])
    (.ret))
    (.ops [⟨(some 15), none, .mov (.tmp 0)⟩,
        ⟨(some 16), none, .callF 90 [(.tmp 15)]⟩,
        ⟨(some 14), none, .mov (.tmp 16)⟩,
        ⟨(some 17), none, .ext (.tmp 14) 0⟩,
        ⟨(some 18), none, .ext (.tmp 14) 1⟩,
        ⟨(some 2), none, .mov (.tmp 17)⟩,
        ⟨(some 3), none, .mov (.tmp 18)⟩] [2, 3])))
  (.ret)),
  19, [(2, none), (3, none)], true⟩
theorem ok75 : FunOK Tryd.prog 75 c75 := ⟨⟨Tryd.f75, _, c75.code, Tryd.func75, rfl, by kernel_rfl, rfl, by kernel_rfl, by kernel_rfl⟩⟩
/- slices.IndexFunc[[][]bool,[]bool] -/
def c81l0 : AC :=
  .seq (.ops [⟨(some 9), none, .bin .lss (.tmp 8) (.tmp 7)⟩] [0, 1, 7, 8, 9])
      (.seq (.cond (.tmp 9)
        (.skip)
        (.exit 0))
      (.seq (.block 1
        (.seq (.ops [⟨(some 10), none, .mov (.tmp 8)⟩,
            ⟨(some 5), none, .mov (.tmp 10)⟩] [0, 1, 5, 7, 8])
        (.seq (.ops [⟨(some 11), none, .mov (.tmp 1)⟩,
            ⟨(some 12), none, .mov (.tmp 0)⟩,
            ⟨(some 13), none, .mov (.tmp 5)⟩,
            ⟨(some 14), none, .idxS 1 (.tmp 12) (.tmp 13)⟩,
            ⟨(some 15), none, .load none (.tmp 14)⟩,
            ⟨(some 16), none, .callV (.tmp 11) [(.tmp 15)]⟩] [0, 1, 5, 7, 8, 16])
        (.cond (.tmp 16)
          (.seq (.ops [⟨(some 17), none, .mov (.tmp 5)⟩,
              ⟨(some 4), none, .mov (.tmp 17)⟩] [4])
          (.ret))
          (.skip)))))
      (.ops [⟨(some 18), none, .bin .add (.tmp 8) (.const (.int .i64 1))⟩,
          ⟨(some 8), none, .mov (.tmp 18)⟩] [0, 1, 7, 8])))
def c81 : AFun := ⟨
  .seq (.ops [⟨(some 4), none, .mov (.const (.int .i64 0))⟩] [0, 1])
  (.seq (.seq (.ops [⟨(some 6), none, .mov (.tmp 0)⟩,
      ⟨(some 7), none, .len false (.tmp 6)⟩,
      ⟨(some 8), none, .mov (.const (.int .i64 0))⟩] [0, 1, 7, 8])
  (.block 0
    (.loop [0, 1, 7, 8]
      c81l0)))
  (.seq (.ops [⟨(some 4), none, .mov (.const (.int .i64 (-1)))⟩] [4])
  (.ret))),
  19, [(4, none)], true⟩
theorem ok81 : FunOK Tryd.prog 81 c81 := ⟨⟨Tryd.f81, _, c81.code, Tryd.func81, rfl, by kernel_rfl, rfl, by kernel_rfl, by kernel_rfl⟩⟩
/- internal/strconv.small -/
def c82 : AFun := ⟨
  .seq (.ops [⟨(some 2), none, .mov (.const (.string ⟨#[]⟩))⟩] [0])
  (.seq (.seq (.ops [⟨(some 3), none, .mov (.tmp 0)⟩,
      ⟨(some 4), none, .bin .lss (.tmp 3) (.const (.int .i64 10))⟩] [0, 4])
  (.cond (.tmp 4)
    (.seq (.ops [⟨(some 5), none, .mov (.tmp 0)⟩,
        ⟨(some 6), none, .mov (.tmp 0)⟩,
        ⟨(some 7), none, .bin .add (.tmp 6) (.const (.int .i64 1))⟩,
        ⟨(some 8), none, .slcS (.const (.string ⟨#[48, 49, 50, 51, 52, 53, 54, 55, 56, 57, 97, 98, 99, 100, 101, 102, 103, 104, 105, 106, 107, 108, 109, 110, 111, 112, 113, 114, 115, 116, 117, 118, 119, 120, 121, 122]⟩)) (some (.tmp 5)) (some (.tmp 7))⟩,
        ⟨(some 2), none, .mov (.tmp 8)⟩] [2])
    (.ret))
    (.skip)))
  (.seq (.ops [⟨(some 9), none, .mov (.tmp 0)⟩,
      ⟨(some 10), none, .bin .mul (.tmp 9) (.const (.int .i64 2))⟩,
      ⟨(some 11), none, .mov (.tmp 0)⟩,
      ⟨(some 12), none, .bin .mul (.tmp 11) (.const (.int .i64 2))⟩,
      ⟨(some 13), none, .bin .add (.tmp 12) (.const (.int .i64 2))⟩,
      ⟨(some 14), none, .slcS (.const (.string ⟨#[48, 48, 48, 49, 48, 50, 48, 51, 48, 52, 48, 53, 48, 54, 48, 55, 48, 56, 48, 57, 49, 48, 49, 49, 49, 50, 49, 51, 49, 52, 49, 53, 49, 54, 49, 55, 49, 56, 49, 57, 50, 48, 50, 49, 50, 50, 50, 51, 50, 52, 50, 53, 50, 54, 50, 55, 50, 56, 50, 57, 51, 48, 51, 49, 51, 50, 51, 51, 51, 52, 51, 53, 51, 54, 51, 55, 51, 56, 51, 57, 52, 48, 52, 49, 52, 50, 52, 51, 52, 52, 52, 53, 52, 54, 52, 55, 52, 56, 52, 57, 53, 48, 53, 49, 53, 50, 53, 51, 53, 52, 53, 53, 53, 54, 53, 55, 53, 56, 53, 57, 54, 48, 54, 49, 54, 50, 54, 51, 54, 52, 54, 53, 54, 54, 54, 55, 54, 56, 54, 57, 55, 48, 55, 49, 55, 50, 55, 51, 55, 52, 55, 53, 55, 54, 55, 55, 55, 56, 55, 57, 56, 48, 56, 49, 56, 50, 56, 51, 56, 52, 56, 53, 56, 54, 56, 55, 56, 56, 56, 57, 57, 48, 57, 49, 57, 50, 57, 51, 57, 52, 57, 53, 57, 54, 57, 55, 57, 56, 57, 57]⟩)) (some (.tmp 10)) (some (.tmp 13))⟩,
      ⟨(some 2), none, .mov (.tmp 14)⟩] [2])
  (.ret))),
  15, [(2, none)], true⟩
theorem ok82 : FunOK Tryd.prog 82 c82 := ⟨⟨Tryd.f82, _, c82.code, Tryd.func82, rfl, by kernel_rfl, rfl, by kernel_rfl, by kernel_rfl⟩⟩
/- internal/strconv.numDigits -/
def c83 : AFun := ⟨
  .seq (.ops [⟨(some 2), none, .mov (.const (.int .i64 0))⟩] [0])
  (.seq (.ops [⟨(some 4), none, .mov (.tmp 0)⟩,
      ⟨(some 5), none, .callF 95 [(.tmp 4)]⟩,
      ⟨(some 6), none, .callF 94 [(.tmp 5)]⟩,
      ⟨(some 3), none, .mov (.tmp 6)⟩] [0, 3])
  (.seq (.ops [⟨(some 7), none, .mov (.tmp 3)⟩,
      ⟨(some 8), none, .mov (.tmp 0)⟩,
      ⟨(some 9), none, .mov (.tmp 3)⟩,
      ⟨(some 10), none, .idxA 20 1 (.global 2) (.tmp 9)⟩,
      ⟨(some 11), none, .load none (.tmp 10)⟩,
      ⟨(some 12), none, .bin .geq (.tmp 8) (.tmp 11)⟩,
      ⟨(some 13), none, .callF 96 [(.tmp 12)]⟩,
      ⟨(some 14), none, .bin .add (.tmp 7) (.tmp 13)⟩,
      ⟨(some 2), none, .mov (.tmp 14)⟩] [2])
  (.ret))),
  15, [(2, none)], true⟩
theorem ok83 : FunOK Tryd.prog 83 c83 := ⟨⟨Tryd.f83, _, c83.code, Tryd.func83, rfl, by kernel_rfl, rfl, by kernel_rfl, by kernel_rfl⟩⟩
/- internal/strconv.formatBase10 -/
def c84l0 : AC :=
  .seq (.seq (.ops [⟨(some 19), none, .mov (.tmp 4)⟩,
          ⟨(some 20), none, .bin .geq (.tmp 19) (.const (.int .i64 8))⟩] [0, 1, 4, 20])
      (.cond (.tmp 20)
        (.skip)
        (.exit 0)))
      (.block 1
        (.seq (.ops [⟨(some 21), none, .mov (.tmp 1)⟩,
            ⟨(some 22), none, .bin .rem (.tmp 21) (.const (.int .u64 100000000))⟩,
            ⟨(some 23), none, .convI .u32 (.tmp 22)⟩,
            ⟨(some 5), none, .mov (.tmp 23)⟩] [0, 1, 4, 5])
        (.seq (.ops [⟨(some 24), none, .mov (.tmp 1)⟩,
            ⟨(some 25), none, .bin .quo (.tmp 24) (.const (.int .u64 100000000))⟩,
            ⟨(some 1), none, .mov (.tmp 25)⟩] [0, 1, 4, 5])
        (.seq (.ops [⟨(some 26), none, .mov (.tmp 5)⟩,
            ⟨(some 27), none, .bin .quo (.tmp 26) (.const (.int .u32 10000))⟩,
            ⟨(some 28), none, .mov (.tmp 5)⟩,
            ⟨(some 29), none, .bin .rem (.tmp 28) (.const (.int .u32 10000))⟩,
            ⟨(some 6), none, .mov (.tmp 27)⟩,
            ⟨(some 7), none, .mov (.tmp 29)⟩] [0, 1, 4, 6, 7])
        (.seq (.ops [⟨(some 30), none, .mov (.tmp 7)⟩,
            ⟨(some 31), none, .bin .quo (.tmp 30) (.const (.int .u32 100))⟩,
            ⟨(some 32), none, .bin .mul (.tmp 31) (.const (.int .u32 2))⟩,
            ⟨(some 33), none, .mov (.tmp 7)⟩,
            ⟨(some 34), none, .bin .rem (.tmp 33) (.const (.int .u32 100))⟩,
            ⟨(some 35), none, .bin .mul (.tmp 34) (.const (.int .u32 2))⟩,
            ⟨(some 8), none, .mov (.tmp 32)⟩,
            ⟨(some 9), none, .mov (.tmp 35)⟩] [0, 1, 4, 6, 8, 9])
        (.seq (.ops [⟨(some 36), none, .mov (.tmp 6)⟩,
            ⟨(some 37), none, .bin .quo (.tmp 36) (.const (.int .u32 100))⟩,
            ⟨(some 38), none, .bin .mul (.tmp 37) (.const (.int .u32 2))⟩,
            ⟨(some 39), none, .mov (.tmp 6)⟩,
            ⟨(some 40), none, .bin .rem (.tmp 39) (.const (.int .u32 100))⟩,
            ⟨(some 41), none, .bin .mul (.tmp 40) (.const (.int .u32 2))⟩,
            ⟨(some 10), none, .mov (.tmp 38)⟩,
            ⟨(some 11), none, .mov (.tmp 41)⟩] [0, 1, 4, 8, 9, 10, 11])
        (.seq (.drawW [⟨⟨(some 42), none, .mov (.tmp 0)⟩, [], none⟩,
            ⟨⟨(some 43), none, .mov (.tmp 4)⟩, [0], none⟩,
            ⟨⟨(some 44), none, .bin .sub (.tmp 43) (.const (.int .i64 1))⟩, [0], none⟩,
            ⟨⟨(some 45), none, .mov (.tmp 0)⟩, [0, 1, 2], none⟩,
            ⟨⟨(some 46), none, .mov (.tmp 4)⟩, [0, 1, 2, 3], none⟩,
            ⟨⟨(some 47), none, .bin .sub (.tmp 46) (.const (.int .i64 2))⟩, [0, 1, 2, 3], none⟩,
            ⟨⟨(some 48), none, .mov (.tmp 9)⟩, [0, 1, 2, 3, 4, 5], none⟩,
            ⟨⟨(some 49), none, .bin .add (.tmp 48) (.const (.int .u32 1))⟩, [0, 1, 2, 3, 4, 5], none⟩,
            ⟨⟨(some 50), none, .idxStr (.const (.string ⟨#[48, 48, 48, 49, 48, 50, 48, 51, 48, 52, 48, 53, 48, 54, 48, 55, 48, 56, 48, 57, 49, 48, 49, 49, 49, 50, 49, 51, 49, 52, 49, 53, 49, 54, 49, 55, 49, 56, 49, 57, 50, 48, 50, 49, 50, 50, 50, 51, 50, 52, 50, 53, 50, 54, 50, 55, 50, 56, 50, 57, 51, 48, 51, 49, 51, 50, 51, 51, 51, 52, 51, 53, 51, 54, 51, 55, 51, 56, 51, 57, 52, 48, 52, 49, 52, 50, 52, 51, 52, 52, 52, 53, 52, 54, 52, 55, 52, 56, 52, 57, 53, 48, 53, 49, 53, 50, 53, 51, 53, 52, 53, 53, 53, 54, 53, 55, 53, 56, 53, 57, 54, 48, 54, 49, 54, 50, 54, 51, 54, 52, 54, 53, 54, 54, 54, 55, 54, 56, 54, 57, 55, 48, 55, 49, 55, 50, 55, 51, 55, 52, 55, 53, 55, 54, 55, 55, 55, 56, 55, 57, 56, 48, 56, 49, 56, 50, 56, 51, 56, 52, 56, 53, 56, 54, 56, 55, 56, 56, 56, 57, 57, 48, 57, 49, 57, 50, 57, 51, 57, 52, 57, 53, 57, 54, 57, 55, 57, 56, 57, 57]⟩)) (.tmp 49)⟩, [0, 1, 2, 3, 4, 5], none⟩,
            ⟨⟨(some 51), none, .mov (.tmp 9)⟩, [0, 1, 2, 3, 4, 5, 6, 7, 8], none⟩,
            ⟨⟨(some 52), none, .idxStr (.const (.string ⟨#[48, 48, 48, 49, 48, 50, 48, 51, 48, 52, 48, 53, 48, 54, 48, 55, 48, 56, 48, 57, 49, 48, 49, 49, 49, 50, 49, 51, 49, 52, 49, 53, 49, 54, 49, 55, 49, 56, 49, 57, 50, 48, 50, 49, 50, 50, 50, 51, 50, 52, 50, 53, 50, 54, 50, 55, 50, 56, 50, 57, 51, 48, 51, 49, 51, 50, 51, 51, 51, 52, 51, 53, 51, 54, 51, 55, 51, 56, 51, 57, 52, 48, 52, 49, 52, 50, 52, 51, 52, 52, 52, 53, 52, 54, 52, 55, 52, 56, 52, 57, 53, 48, 53, 49, 53, 50, 53, 51, 53, 52, 53, 53, 53, 54, 53, 55, 53, 56, 53, 57, 54, 48, 54, 49, 54, 50, 54, 51, 54, 52, 54, 53, 54, 54, 54, 55, 54, 56, 54, 57, 55, 48, 55, 49, 55, 50, 55, 51, 55, 52, 55, 53, 55, 54, 55, 55, 55, 56, 55, 57, 56, 48, 56, 49, 56, 50, 56, 51, 56, 52, 56, 53, 56, 54, 56, 55, 56, 56, 56, 57, 57, 48, 57, 49, 57, 50, 57, 51, 57, 52, 57, 53, 57, 54, 57, 55, 57, 56, 57, 57]⟩)) (.tmp 51)⟩, [0, 1, 2, 3, 4, 5, 6, 7, 8], none⟩,
            ⟨⟨(some 53), none, .idxS 1 (.tmp 42) (.tmp 44)⟩, [3, 4, 5, 9, 10], none⟩,
            ⟨⟨none, none, .store 1 (.tmp 53) (.tmp 50)⟩, [3, 4, 5, 9, 10], none⟩] [⟨(some 54), none, .idxS 1 (.tmp 45) (.tmp 47)⟩,
            ⟨none, none, .store 1 (.tmp 54) (.tmp 52)⟩] [0, 1, 4, 8, 10, 11])
        (.seq (.drawW [⟨⟨(some 55), none, .mov (.tmp 0)⟩, [], none⟩,
            ⟨⟨(some 56), none, .mov (.tmp 4)⟩, [0], none⟩,
            ⟨⟨(some 57), none, .bin .sub (.tmp 56) (.const (.int .i64 3))⟩, [0], none⟩,
            ⟨⟨(some 58), none, .mov (.tmp 0)⟩, [0, 1, 2], none⟩,
            ⟨⟨(some 59), none, .mov (.tmp 4)⟩, [0, 1, 2, 3], none⟩,
            ⟨⟨(some 60), none, .bin .sub (.tmp 59) (.const (.int .i64 4))⟩, [0, 1, 2, 3], none⟩,
            ⟨⟨(some 61), none, .mov (.tmp 8)⟩, [0, 1, 2, 3, 4, 5], none⟩,
            ⟨⟨(some 62), none, .bin .add (.tmp 61) (.const (.int .u32 1))⟩, [0, 1, 2, 3, 4, 5], none⟩,
            ⟨⟨(some 63), none, .idxStr (.const (.string ⟨#[48, 48, 48, 49, 48, 50, 48, 51, 48, 52, 48, 53, 48, 54, 48, 55, 48, 56, 48, 57, 49, 48, 49, 49, 49, 50, 49, 51, 49, 52, 49, 53, 49, 54, 49, 55, 49, 56, 49, 57, 50, 48, 50, 49, 50, 50, 50, 51, 50, 52, 50, 53, 50, 54, 50, 55, 50, 56, 50, 57, 51, 48, 51, 49, 51, 50, 51, 51, 51, 52, 51, 53, 51, 54, 51, 55, 51, 56, 51, 57, 52, 48, 52, 49, 52, 50, 52, 51, 52, 52, 52, 53, 52, 54, 52, 55, 52, 56, 52, 57, 53, 48, 53, 49, 53, 50, 53, 51, 53, 52, 53, 53, 53, 54, 53, 55, 53, 56, 53, 57, 54, 48, 54, 49, 54, 50, 54, 51, 54, 52, 54, 53, 54, 54, 54, 55, 54, 56, 54, 57, 55, 48, 55, 49, 55, 50, 55, 51, 55, 52, 55, 53, 55, 54, 55, 55, 55, 56, 55, 57, 56, 48, 56, 49, 56, 50, 56, 51, 56, 52, 56, 53, 56, 54, 56, 55, 56, 56, 56, 57, 57, 48, 57, 49, 57, 50, 57, 51, 57, 52, 57, 53, 57, 54, 57, 55, 57, 56, 57, 57]⟩)) (.tmp 62)⟩, [0, 1, 2, 3, 4, 5], none⟩,
            ⟨⟨(some 64), none, .mov (.tmp 8)⟩, [0, 1, 2, 3, 4, 5, 6, 7, 8], none⟩,
            ⟨⟨(some 65), none, .idxStr (.const (.string ⟨#[48, 48, 48, 49, 48, 50, 48, 51, 48, 52, 48, 53, 48, 54, 48, 55, 48, 56, 48, 57, 49, 48, 49, 49, 49, 50, 49, 51, 49, 52, 49, 53, 49, 54, 49, 55, 49, 56, 49, 57, 50, 48, 50, 49, 50, 50, 50, 51, 50, 52, 50, 53, 50, 54, 50, 55, 50, 56, 50, 57, 51, 48, 51, 49, 51, 50, 51, 51, 51, 52, 51, 53, 51, 54, 51, 55, 51, 56, 51, 57, 52, 48, 52, 49, 52, 50, 52, 51, 52, 52, 52, 53, 52, 54, 52, 55, 52, 56, 52, 57, 53, 48, 53, 49, 53, 50, 53, 51, 53, 52, 53, 53, 53, 54, 53, 55, 53, 56, 53, 57, 54, 48, 54, 49, 54, 50, 54, 51, 54, 52, 54, 53, 54, 54, 54, 55, 54, 56, 54, 57, 55, 48, 55, 49, 55, 50, 55, 51, 55, 52, 55, 53, 55, 54, 55, 55, 55, 56, 55, 57, 56, 48, 56, 49, 56, 50, 56, 51, 56, 52, 56, 53, 56, 54, 56, 55, 56, 56, 56, 57, 57, 48, 57, 49, 57, 50, 57, 51, 57, 52, 57, 53, 57, 54, 57, 55, 57, 56, 57, 57]⟩)) (.tmp 64)⟩, [0, 1, 2, 3, 4, 5, 6, 7, 8], none⟩,
            ⟨⟨(some 66), none, .idxS 1 (.tmp 55) (.tmp 57)⟩, [3, 4, 5, 9, 10], none⟩,
            ⟨⟨none, none, .store 1 (.tmp 66) (.tmp 63)⟩, [3, 4, 5, 9, 10], none⟩] [⟨(some 67), none, .idxS 1 (.tmp 58) (.tmp 60)⟩,
            ⟨none, none, .store 1 (.tmp 67) (.tmp 65)⟩] [0, 1, 4, 10, 11])
        (.seq (.drawW [⟨⟨(some 68), none, .mov (.tmp 0)⟩, [], none⟩,
            ⟨⟨(some 69), none, .mov (.tmp 4)⟩, [0], none⟩,
            ⟨⟨(some 70), none, .bin .sub (.tmp 69) (.const (.int .i64 5))⟩, [0], none⟩,
            ⟨⟨(some 71), none, .mov (.tmp 0)⟩, [0, 1, 2], none⟩,
            ⟨⟨(some 72), none, .mov (.tmp 4)⟩, [0, 1, 2, 3], none⟩,
            ⟨⟨(some 73), none, .bin .sub (.tmp 72) (.const (.int .i64 6))⟩, [0, 1, 2, 3], none⟩,
            ⟨⟨(some 74), none, .mov (.tmp 11)⟩, [0, 1, 2, 3, 4, 5], none⟩,
            ⟨⟨(some 75), none, .bin .add (.tmp 74) (.const (.int .u32 1))⟩, [0, 1, 2, 3, 4, 5], none⟩,
            ⟨⟨(some 76), none, .idxStr (.const (.string ⟨#[48, 48, 48, 49, 48, 50, 48, 51, 48, 52, 48, 53, 48, 54, 48, 55, 48, 56, 48, 57, 49, 48, 49, 49, 49, 50, 49, 51, 49, 52, 49, 53, 49, 54, 49, 55, 49, 56, 49, 57, 50, 48, 50, 49, 50, 50, 50, 51, 50, 52, 50, 53, 50, 54, 50, 55, 50, 56, 50, 57, 51, 48, 51, 49, 51, 50, 51, 51, 51, 52, 51, 53, 51, 54, 51, 55, 51, 56, 51, 57, 52, 48, 52, 49, 52, 50, 52, 51, 52, 52, 52, 53, 52, 54, 52, 55, 52, 56, 52, 57, 53, 48, 53, 49, 53, 50, 53, 51, 53, 52, 53, 53, 53, 54, 53, 55, 53, 56, 53, 57, 54, 48, 54, 49, 54, 50, 54, 51, 54, 52, 54, 53, 54, 54, 54, 55, 54, 56, 54, 57, 55, 48, 55, 49, 55, 50, 55, 51, 55, 52, 55, 53, 55, 54, 55, 55, 55, 56, 55, 57, 56, 48, 56, 49, 56, 50, 56, 51, 56, 52, 56, 53, 56, 54, 56, 55, 56, 56, 56, 57, 57, 48, 57, 49, 57, 50, 57, 51, 57, 52, 57, 53, 57, 54, 57, 55, 57, 56, 57, 57]⟩)) (.tmp 75)⟩, [0, 1, 2, 3, 4, 5], none⟩,
            ⟨⟨(some 77), none, .mov (.tmp 11)⟩, [0, 1, 2, 3, 4, 5, 6, 7, 8], none⟩,
            ⟨⟨(some 78), none, .idxStr (.const (.string ⟨#[48, 48, 48, 49, 48, 50, 48, 51, 48, 52, 48, 53, 48, 54, 48, 55, 48, 56, 48, 57, 49, 48, 49, 49, 49, 50, 49, 51, 49, 52, 49, 53, 49, 54, 49, 55, 49, 56, 49, 57, 50, 48, 50, 49, 50, 50, 50, 51, 50, 52, 50, 53, 50, 54, 50, 55, 50, 56, 50, 57, 51, 48, 51, 49, 51, 50, 51, 51, 51, 52, 51, 53, 51, 54, 51, 55, 51, 56, 51, 57, 52, 48, 52, 49, 52, 50, 52, 51, 52, 52, 52, 53, 52, 54, 52, 55, 52, 56, 52, 57, 53, 48, 53, 49, 53, 50, 53, 51, 53, 52, 53, 53, 53, 54, 53, 55, 53, 56, 53, 57, 54, 48, 54, 49, 54, 50, 54, 51, 54, 52, 54, 53, 54, 54, 54, 55, 54, 56, 54, 57, 55, 48, 55, 49, 55, 50, 55, 51, 55, 52, 55, 53, 55, 54, 55, 55, 55, 56, 55, 57, 56, 48, 56, 49, 56, 50, 56, 51, 56, 52, 56, 53, 56, 54, 56, 55, 56, 56, 56, 57, 57, 48, 57, 49, 57, 50, 57, 51, 57, 52, 57, 53, 57, 54, 57, 55, 57, 56, 57, 57]⟩)) (.tmp 77)⟩, [0, 1, 2, 3, 4, 5, 6, 7, 8], none⟩,
            ⟨⟨(some 79), none, .idxS 1 (.tmp 68) (.tmp 70)⟩, [3, 4, 5, 9, 10], none⟩,
            ⟨⟨none, none, .store 1 (.tmp 79) (.tmp 76)⟩, [3, 4, 5, 9, 10], none⟩] [⟨(some 80), none, .idxS 1 (.tmp 71) (.tmp 73)⟩,
            ⟨none, none, .store 1 (.tmp 80) (.tmp 78)⟩] [0, 1, 4, 10])
        (.seq (.drawW [⟨⟨(some 81), none, .mov (.tmp 0)⟩, [], none⟩,
            ⟨⟨(some 82), none, .mov (.tmp 4)⟩, [0], none⟩,
            ⟨⟨(some 83), none, .bin .sub (.tmp 82) (.const (.int .i64 7))⟩, [0], none⟩,
            ⟨⟨(some 84), none, .mov (.tmp 0)⟩, [0, 1, 2], none⟩,
            ⟨⟨(some 85), none, .mov (.tmp 4)⟩, [0, 1, 2, 3], none⟩,
            ⟨⟨(some 86), none, .bin .sub (.tmp 85) (.const (.int .i64 8))⟩, [0, 1, 2, 3], none⟩,
            ⟨⟨(some 87), none, .mov (.tmp 10)⟩, [0, 1, 2, 3, 4, 5], none⟩,
            ⟨⟨(some 88), none, .bin .add (.tmp 87) (.const (.int .u32 1))⟩, [0, 1, 2, 3, 4, 5], none⟩,
            ⟨⟨(some 89), none, .idxStr (.const (.string ⟨#[48, 48, 48, 49, 48, 50, 48, 51, 48, 52, 48, 53, 48, 54, 48, 55, 48, 56, 48, 57, 49, 48, 49, 49, 49, 50, 49, 51, 49, 52, 49, 53, 49, 54, 49, 55, 49, 56, 49, 57, 50, 48, 50, 49, 50, 50, 50, 51, 50, 52, 50, 53, 50, 54, 50, 55, 50, 56, 50, 57, 51, 48, 51, 49, 51, 50, 51, 51, 51, 52, 51, 53, 51, 54, 51, 55, 51, 56, 51, 57, 52, 48, 52, 49, 52, 50, 52, 51, 52, 52, 52, 53, 52, 54, 52, 55, 52, 56, 52, 57, 53, 48, 53, 49, 53, 50, 53, 51, 53, 52, 53, 53, 53, 54, 53, 55, 53, 56, 53, 57, 54, 48, 54, 49, 54, 50, 54, 51, 54, 52, 54, 53, 54, 54, 54, 55, 54, 56, 54, 57, 55, 48, 55, 49, 55, 50, 55, 51, 55, 52, 55, 53, 55, 54, 55, 55, 55, 56, 55, 57, 56, 48, 56, 49, 56, 50, 56, 51, 56, 52, 56, 53, 56, 54, 56, 55, 56, 56, 56, 57, 57, 48, 57, 49, 57, 50, 57, 51, 57, 52, 57, 53, 57, 54, 57, 55, 57, 56, 57, 57]⟩)) (.tmp 88)⟩, [0, 1, 2, 3, 4, 5], none⟩,
            ⟨⟨(some 90), none, .mov (.tmp 10)⟩, [0, 1, 2, 3, 4, 5, 6, 7, 8], none⟩,
            ⟨⟨(some 91), none, .idxStr (.const (.string ⟨#[48, 48, 48, 49, 48, 50, 48, 51, 48, 52, 48, 53, 48, 54, 48, 55, 48, 56, 48, 57, 49, 48, 49, 49, 49, 50, 49, 51, 49, 52, 49, 53, 49, 54, 49, 55, 49, 56, 49, 57, 50, 48, 50, 49, 50, 50, 50, 51, 50, 52, 50, 53, 50, 54, 50, 55, 50, 56, 50, 57, 51, 48, 51, 49, 51, 50, 51, 51, 51, 52, 51, 53, 51, 54, 51, 55, 51, 56, 51, 57, 52, 48, 52, 49, 52, 50, 52, 51, 52, 52, 52, 53, 52, 54, 52, 55, 52, 56, 52, 57, 53, 48, 53, 49, 53, 50, 53, 51, 53, 52, 53, 53, 53, 54, 53, 55, 53, 56, 53, 57, 54, 48, 54, 49, 54, 50, 54, 51, 54, 52, 54, 53, 54, 54, 54, 55, 54, 56, 54, 57, 55, 48, 55, 49, 55, 50, 55, 51, 55, 52, 55, 53, 55, 54, 55, 55, 55, 56, 55, 57, 56, 48, 56, 49, 56, 50, 56, 51, 56, 52, 56, 53, 56, 54, 56, 55, 56, 56, 56, 57, 57, 48, 57, 49, 57, 50, 57, 51, 57, 52, 57, 53, 57, 54, 57, 55, 57, 56, 57, 57]⟩)) (.tmp 90)⟩, [0, 1, 2, 3, 4, 5, 6, 7, 8], none⟩,
            ⟨⟨(some 92), none, .idxS 1 (.tmp 81) (.tmp 83)⟩, [3, 4, 5, 9, 10], none⟩,
            ⟨⟨none, none, .store 1 (.tmp 92) (.tmp 89)⟩, [3, 4, 5, 9, 10], none⟩] [⟨(some 93), none, .idxS 1 (.tmp 84) (.tmp 86)⟩,
            ⟨none, none, .store 1 (.tmp 93) (.tmp 91)⟩] [0, 1, 4])
        (.ops [⟨(some 94), none, .mov (.tmp 4)⟩,
            ⟨(some 95), none, .bin .sub (.tmp 94) (.const (.int .i64 8))⟩,
            ⟨(some 4), none, .mov (.tmp 95)⟩] [0, 1, 4])))))))))))
def c84 : AFun := ⟨
  .seq (.ops [⟨(some 17), none, .mov (.tmp 0)⟩,
      ⟨(some 18), none, .len false (.tmp 17)⟩,
      ⟨(some 4), none, .mov (.tmp 18)⟩] [0, 1, 4])
  (.seq (.block 0
    (.loop [0, 1, 4]
      c84l0))
  (.seq (.ops [⟨(some 96), none, .mov (.tmp 1)⟩,
      ⟨(some 97), none, .convI .u32 (.tmp 96)⟩,
      ⟨(some 12), none, .mov (.tmp 97)⟩] [0, 4, 12])
  (.seq (.seq (.ops [⟨(some 98), none, .mov (.tmp 4)⟩,
      ⟨(some 99), none, .bin .geq (.tmp 98) (.const (.int .i64 4))⟩] [0, 4, 12, 99])
  (.cond (.tmp 99)
    (.seq (.ops [⟨(some 100), none, .mov (.tmp 12)⟩,
        ⟨(some 101), none, .bin .rem (.tmp 100) (.const (.int .u32 10000))⟩,
        ⟨(some 13), none, .mov (.tmp 101)⟩] [0, 4, 12, 13])
    (.seq (.ops [⟨(some 102), none, .mov (.tmp 12)⟩,
        ⟨(some 103), none, .bin .quo (.tmp 102) (.const (.int .u32 10000))⟩,
        ⟨(some 12), none, .mov (.tmp 103)⟩] [0, 4, 12, 13])
    (.seq (.ops [⟨(some 104), none, .mov (.tmp 13)⟩,
        ⟨(some 105), none, .bin .quo (.tmp 104) (.const (.int .u32 100))⟩,
        ⟨(some 106), none, .bin .mul (.tmp 105) (.const (.int .u32 2))⟩,
        ⟨(some 107), none, .mov (.tmp 13)⟩,
        ⟨(some 108), none, .bin .rem (.tmp 107) (.const (.int .u32 100))⟩,
        ⟨(some 109), none, .bin .mul (.tmp 108) (.const (.int .u32 2))⟩,
        ⟨(some 14), none, .mov (.tmp 106)⟩,
        ⟨(some 15), none, .mov (.tmp 109)⟩] [0, 4, 12, 14, 15])
    (.seq (.drawW [⟨⟨(some 110), none, .mov (.tmp 0)⟩, [], none⟩,
        ⟨⟨(some 111), none, .mov (.tmp 4)⟩, [0], none⟩,
        ⟨⟨(some 112), none, .bin .sub (.tmp 111) (.const (.int .i64 1))⟩, [0], none⟩,
        ⟨⟨(some 113), none, .mov (.tmp 0)⟩, [0, 1, 2], none⟩,
        ⟨⟨(some 114), none, .mov (.tmp 4)⟩, [0, 1, 2, 3], none⟩,
        ⟨⟨(some 115), none, .bin .sub (.tmp 114) (.const (.int .i64 2))⟩, [0, 1, 2, 3], none⟩,
        ⟨⟨(some 116), none, .mov (.tmp 15)⟩, [0, 1, 2, 3, 4, 5], none⟩,
        ⟨⟨(some 117), none, .bin .add (.tmp 116) (.const (.int .u32 1))⟩, [0, 1, 2, 3, 4, 5], none⟩,
        ⟨⟨(some 118), none, .idxStr (.const (.string ⟨#[48, 48, 48, 49, 48, 50, 48, 51, 48, 52, 48, 53, 48, 54, 48, 55, 48, 56, 48, 57, 49, 48, 49, 49, 49, 50, 49, 51, 49, 52, 49, 53, 49, 54, 49, 55, 49, 56, 49, 57, 50, 48, 50, 49, 50, 50, 50, 51, 50, 52, 50, 53, 50, 54, 50, 55, 50, 56, 50, 57, 51, 48, 51, 49, 51, 50, 51, 51, 51, 52, 51, 53, 51, 54, 51, 55, 51, 56, 51, 57, 52, 48, 52, 49, 52, 50, 52, 51, 52, 52, 52, 53, 52, 54, 52, 55, 52, 56, 52, 57, 53, 48, 53, 49, 53, 50, 53, 51, 53, 52, 53, 53, 53, 54, 53, 55, 53, 56, 53, 57, 54, 48, 54, 49, 54, 50, 54, 51, 54, 52, 54, 53, 54, 54, 54, 55, 54, 56, 54, 57, 55, 48, 55, 49, 55, 50, 55, 51, 55, 52, 55, 53, 55, 54, 55, 55, 55, 56, 55, 57, 56, 48, 56, 49, 56, 50, 56, 51, 56, 52, 56, 53, 56, 54, 56, 55, 56, 56, 56, 57, 57, 48, 57, 49, 57, 50, 57, 51, 57, 52, 57, 53, 57, 54, 57, 55, 57, 56, 57, 57]⟩)) (.tmp 117)⟩, [0, 1, 2, 3, 4, 5], none⟩,
        ⟨⟨(some 119), none, .mov (.tmp 15)⟩, [0, 1, 2, 3, 4, 5, 6, 7, 8], none⟩,
        ⟨⟨(some 120), none, .idxStr (.const (.string ⟨#[48, 48, 48, 49, 48, 50, 48, 51, 48, 52, 48, 53, 48, 54, 48, 55, 48, 56, 48, 57, 49, 48, 49, 49, 49, 50, 49, 51, 49, 52, 49, 53, 49, 54, 49, 55, 49, 56, 49, 57, 50, 48, 50, 49, 50, 50, 50, 51, 50, 52, 50, 53, 50, 54, 50, 55, 50, 56, 50, 57, 51, 48, 51, 49, 51, 50, 51, 51, 51, 52, 51, 53, 51, 54, 51, 55, 51, 56, 51, 57, 52, 48, 52, 49, 52, 50, 52, 51, 52, 52, 52, 53, 52, 54, 52, 55, 52, 56, 52, 57, 53, 48, 53, 49, 53, 50, 53, 51, 53, 52, 53, 53, 53, 54, 53, 55, 53, 56, 53, 57, 54, 48, 54, 49, 54, 50, 54, 51, 54, 52, 54, 53, 54, 54, 54, 55, 54, 56, 54, 57, 55, 48, 55, 49, 55, 50, 55, 51, 55, 52, 55, 53, 55, 54, 55, 55, 55, 56, 55, 57, 56, 48, 56, 49, 56, 50, 56, 51, 56, 52, 56, 53, 56, 54, 56, 55, 56, 56, 56, 57, 57, 48, 57, 49, 57, 50, 57, 51, 57, 52, 57, 53, 57, 54, 57, 55, 57, 56, 57, 57]⟩)) (.tmp 119)⟩, [0, 1, 2, 3, 4, 5, 6, 7, 8], none⟩,
        ⟨⟨(some 121), none, .idxS 1 (.tmp 110) (.tmp 112)⟩, [3, 4, 5, 9, 10], none⟩,
        ⟨⟨none, none, .store 1 (.tmp 121) (.tmp 118)⟩, [3, 4, 5, 9, 10], none⟩] [⟨(some 122), none, .idxS 1 (.tmp 113) (.tmp 115)⟩,
        ⟨none, none, .store 1 (.tmp 122) (.tmp 120)⟩] [0, 4, 12, 14])
    (.seq (.drawW [⟨⟨(some 123), none, .mov (.tmp 0)⟩, [], none⟩,
        ⟨⟨(some 124), none, .mov (.tmp 4)⟩, [0], none⟩,
        ⟨⟨(some 125), none, .bin .sub (.tmp 124) (.const (.int .i64 3))⟩, [0], none⟩,
        ⟨⟨(some 126), none, .mov (.tmp 0)⟩, [0, 1, 2], none⟩,
        ⟨⟨(some 127), none, .mov (.tmp 4)⟩, [0, 1, 2, 3], none⟩,
        ⟨⟨(some 128), none, .bin .sub (.tmp 127) (.const (.int .i64 4))⟩, [0, 1, 2, 3], none⟩,
        ⟨⟨(some 129), none, .mov (.tmp 14)⟩, [0, 1, 2, 3, 4, 5], none⟩,
        ⟨⟨(some 130), none, .bin .add (.tmp 129) (.const (.int .u32 1))⟩, [0, 1, 2, 3, 4, 5], none⟩,
        ⟨⟨(some 131), none, .idxStr (.const (.string ⟨#[48, 48, 48, 49, 48, 50, 48, 51, 48, 52, 48, 53, 48, 54, 48, 55, 48, 56, 48, 57, 49, 48, 49, 49, 49, 50, 49, 51, 49, 52, 49, 53, 49, 54, 49, 55, 49, 56, 49, 57, 50, 48, 50, 49, 50, 50, 50, 51, 50, 52, 50, 53, 50, 54, 50, 55, 50, 56, 50, 57, 51, 48, 51, 49, 51, 50, 51, 51, 51, 52, 51, 53, 51, 54, 51, 55, 51, 56, 51, 57, 52, 48, 52, 49, 52, 50, 52, 51, 52, 52, 52, 53, 52, 54, 52, 55, 52, 56, 52, 57, 53, 48, 53, 49, 53, 50, 53, 51, 53, 52, 53, 53, 53, 54, 53, 55, 53, 56, 53, 57, 54, 48, 54, 49, 54, 50, 54, 51, 54, 52, 54, 53, 54, 54, 54, 55, 54, 56, 54, 57, 55, 48, 55, 49, 55, 50, 55, 51, 55, 52, 55, 53, 55, 54, 55, 55, 55, 56, 55, 57, 56, 48, 56, 49, 56, 50, 56, 51, 56, 52, 56, 53, 56, 54, 56, 55, 56, 56, 56, 57, 57, 48, 57, 49, 57, 50, 57, 51, 57, 52, 57, 53, 57, 54, 57, 55, 57, 56, 57, 57]⟩)) (.tmp 130)⟩, [0, 1, 2, 3, 4, 5], none⟩,
        ⟨⟨(some 132), none, .mov (.tmp 14)⟩, [0, 1, 2, 3, 4, 5, 6, 7, 8], none⟩,
        ⟨⟨(some 133), none, .idxStr (.const (.string ⟨#[48, 48, 48, 49, 48, 50, 48, 51, 48, 52, 48, 53, 48, 54, 48, 55, 48, 56, 48, 57, 49, 48, 49, 49, 49, 50, 49, 51, 49, 52, 49, 53, 49, 54, 49, 55, 49, 56, 49, 57, 50, 48, 50, 49, 50, 50, 50, 51, 50, 52, 50, 53, 50, 54, 50, 55, 50, 56, 50, 57, 51, 48, 51, 49, 51, 50, 51, 51, 51, 52, 51, 53, 51, 54, 51, 55, 51, 56, 51, 57, 52, 48, 52, 49, 52, 50, 52, 51, 52, 52, 52, 53, 52, 54, 52, 55, 52, 56, 52, 57, 53, 48, 53, 49, 53, 50, 53, 51, 53, 52, 53, 53, 53, 54, 53, 55, 53, 56, 53, 57, 54, 48, 54, 49, 54, 50, 54, 51, 54, 52, 54, 53, 54, 54, 54, 55, 54, 56, 54, 57, 55, 48, 55, 49, 55, 50, 55, 51, 55, 52, 55, 53, 55, 54, 55, 55, 55, 56, 55, 57, 56, 48, 56, 49, 56, 50, 56, 51, 56, 52, 56, 53, 56, 54, 56, 55, 56, 56, 56, 57, 57, 48, 57, 49, 57, 50, 57, 51, 57, 52, 57, 53, 57, 54, 57, 55, 57, 56, 57, 57]⟩)) (.tmp 132)⟩, [0, 1, 2, 3, 4, 5, 6, 7, 8], none⟩,
        ⟨⟨(some 134), none, .idxS 1 (.tmp 123) (.tmp 125)⟩, [3, 4, 5, 9, 10], none⟩,
        ⟨⟨none, none, .store 1 (.tmp 134) (.tmp 131)⟩, [3, 4, 5, 9, 10], none⟩] [⟨(some 135), none, .idxS 1 (.tmp 126) (.tmp 128)⟩,
        ⟨none, none, .store 1 (.tmp 135) (.tmp 133)⟩] [0, 4, 12])
    (.ops [⟨(some 136), none, .mov (.tmp 4)⟩,
        ⟨(some 137), none, .bin .sub (.tmp 136) (.const (.int .i64 4))⟩,
        ⟨(some 4), none, .mov (.tmp 137)⟩] [0, 4, 12]))))))
    (.skip)))
  (.seq (.seq (.ops [⟨(some 138), none, .mov (.tmp 4)⟩,
      ⟨(some 139), none, .bin .geq (.tmp 138) (.const (.int .i64 2))⟩] [0, 4, 12, 139])
  (.cond (.tmp 139)
    (.seq (.ops [⟨(some 140), none, .mov (.tmp 12)⟩,
        ⟨(some 141), none, .bin .rem (.tmp 140) (.const (.int .u32 100))⟩,
        ⟨(some 142), none, .bin .mul (.tmp 141) (.const (.int .u32 2))⟩,
        ⟨(some 16), none, .mov (.tmp 142)⟩] [0, 4, 12, 16])
    (.seq (.ops [⟨(some 143), none, .mov (.tmp 12)⟩,
        ⟨(some 144), none, .bin .quo (.tmp 143) (.const (.int .u32 100))⟩,
        ⟨(some 12), none, .mov (.tmp 144)⟩] [0, 4, 12, 16])
    (.seq (.drawW [⟨⟨(some 145), none, .mov (.tmp 0)⟩, [], none⟩,
        ⟨⟨(some 146), none, .mov (.tmp 4)⟩, [0], none⟩,
        ⟨⟨(some 147), none, .bin .sub (.tmp 146) (.const (.int .i64 1))⟩, [0], none⟩,
        ⟨⟨(some 148), none, .mov (.tmp 0)⟩, [0, 1, 2], none⟩,
        ⟨⟨(some 149), none, .mov (.tmp 4)⟩, [0, 1, 2, 3], none⟩,
        ⟨⟨(some 150), none, .bin .sub (.tmp 149) (.const (.int .i64 2))⟩, [0, 1, 2, 3], none⟩,
        ⟨⟨(some 151), none, .mov (.tmp 16)⟩, [0, 1, 2, 3, 4, 5], none⟩,
        ⟨⟨(some 152), none, .bin .add (.tmp 151) (.const (.int .u32 1))⟩, [0, 1, 2, 3, 4, 5], none⟩,
        ⟨⟨(some 153), none, .idxStr (.const (.string ⟨#[48, 48, 48, 49, 48, 50, 48, 51, 48, 52, 48, 53, 48, 54, 48, 55, 48, 56, 48, 57, 49, 48, 49, 49, 49, 50, 49, 51, 49, 52, 49, 53, 49, 54, 49, 55, 49, 56, 49, 57, 50, 48, 50, 49, 50, 50, 50, 51, 50, 52, 50, 53, 50, 54, 50, 55, 50, 56, 50, 57, 51, 48, 51, 49, 51, 50, 51, 51, 51, 52, 51, 53, 51, 54, 51, 55, 51, 56, 51, 57, 52, 48, 52, 49, 52, 50, 52, 51, 52, 52, 52, 53, 52, 54, 52, 55, 52, 56, 52, 57, 53, 48, 53, 49, 53, 50, 53, 51, 53, 52, 53, 53, 53, 54, 53, 55, 53, 56, 53, 57, 54, 48, 54, 49, 54, 50, 54, 51, 54, 52, 54, 53, 54, 54, 54, 55, 54, 56, 54, 57, 55, 48, 55, 49, 55, 50, 55, 51, 55, 52, 55, 53, 55, 54, 55, 55, 55, 56, 55, 57, 56, 48, 56, 49, 56, 50, 56, 51, 56, 52, 56, 53, 56, 54, 56, 55, 56, 56, 56, 57, 57, 48, 57, 49, 57, 50, 57, 51, 57, 52, 57, 53, 57, 54, 57, 55, 57, 56, 57, 57]⟩)) (.tmp 152)⟩, [0, 1, 2, 3, 4, 5], none⟩,
        ⟨⟨(some 154), none, .mov (.tmp 16)⟩, [0, 1, 2, 3, 4, 5, 6, 7, 8], none⟩,
        ⟨⟨(some 155), none, .idxStr (.const (.string ⟨#[48, 48, 48, 49, 48, 50, 48, 51, 48, 52, 48, 53, 48, 54, 48, 55, 48, 56, 48, 57, 49, 48, 49, 49, 49, 50, 49, 51, 49, 52, 49, 53, 49, 54, 49, 55, 49, 56, 49, 57, 50, 48, 50, 49, 50, 50, 50, 51, 50, 52, 50, 53, 50, 54, 50, 55, 50, 56, 50, 57, 51, 48, 51, 49, 51, 50, 51, 51, 51, 52, 51, 53, 51, 54, 51, 55, 51, 56, 51, 57, 52, 48, 52, 49, 52, 50, 52, 51, 52, 52, 52, 53, 52, 54, 52, 55, 52, 56, 52, 57, 53, 48, 53, 49, 53, 50, 53, 51, 53, 52, 53, 53, 53, 54, 53, 55, 53, 56, 53, 57, 54, 48, 54, 49, 54, 50, 54, 51, 54, 52, 54, 53, 54, 54, 54, 55, 54, 56, 54, 57, 55, 48, 55, 49, 55, 50, 55, 51, 55, 52, 55, 53, 55, 54, 55, 55, 55, 56, 55, 57, 56, 48, 56, 49, 56, 50, 56, 51, 56, 52, 56, 53, 56, 54, 56, 55, 56, 56, 56, 57, 57, 48, 57, 49, 57, 50, 57, 51, 57, 52, 57, 53, 57, 54, 57, 55, 57, 56, 57, 57]⟩)) (.tmp 154)⟩, [0, 1, 2, 3, 4, 5, 6, 7, 8], none⟩,
        ⟨⟨(some 156), none, .idxS 1 (.tmp 145) (.tmp 147)⟩, [3, 4, 5, 9, 10], none⟩,
        ⟨⟨none, none, .store 1 (.tmp 156) (.tmp 153)⟩, [3, 4, 5, 9, 10], none⟩] [⟨(some 157), none, .idxS 1 (.tmp 148) (.tmp 150)⟩,
        ⟨none, none, .store 1 (.tmp 157) (.tmp 155)⟩] [0, 4, 12])
    (.ops [⟨(some 158), none, .mov (.tmp 4)⟩,
        ⟨(some 159), none, .bin .sub (.tmp 158) (.const (.int .i64 2))⟩,
        ⟨(some 4), none, .mov (.tmp 159)⟩] [0, 4, 12]))))
    (.skip)))
  (.seq (.ops [⟨(some 160), none, .mov (.tmp 4)⟩,
      ⟨(some 161), none, .bin .gtr (.tmp 160) (.const (.int .i64 0))⟩] [0, 12, 161])
  (.cond (.tmp 161)
    (.ops [⟨(some 162), none, .mov (.tmp 0)⟩,
        ⟨(some 163), none, .mov (.tmp 12)⟩,
        ⟨(some 164), none, .bin .add (.const (.int .u32 48)) (.tmp 163)⟩,
        ⟨(some 165), none, .convI .u8 (.tmp 164)⟩,
        ⟨(some 166), none, .idxS 1 (.tmp 162) (.const (.int .i64 0))⟩,
        ⟨none, none, .store 1 (.tmp 166) (.tmp 165)⟩] [])
    (.skip))))))),
  167, [], true⟩
theorem ok84 : FunOK Tryd.prog 84 c84 := ⟨⟨Tryd.f84, _, c84.code, Tryd.func84, rfl, by kernel_rfl, rfl, by kernel_rfl, by kernel_rfl⟩⟩
/- internal/strconv.formatBits (1 operations that the interpreter lacks) -/
def c85l0 : AC :=
  .seq (.seq (.ops [⟨(some 66), none, .mov (.tmp 1)⟩,
            ⟨(some 67), none, .mov (.tmp 17)⟩,
            ⟨(some 68), none, .bin .geq (.tmp 66) (.tmp 67)⟩] [0, 1, 3, 4, 10, 11, 12, 13, 17, 68])
        (.cond (.tmp 68)
          (.skip)
          (.exit 2)))
        (.block 3
          (.seq (.ops [⟨(some 69), none, .mov (.tmp 13)⟩,
              ⟨(some 70), none, .bin .sub (.tmp 69) (.const (.int .i64 1))⟩,
              ⟨(some 13), none, .mov (.tmp 70)⟩] [0, 1, 3, 4, 10, 11, 12, 13, 17])
          (.seq (.ops [⟨(some 71), none, .mov (.tmp 1)⟩,
              ⟨(some 72), none, .mov (.tmp 17)⟩,
              ⟨(some 73), none, .bin .quo (.tmp 71) (.tmp 72)⟩,
              ⟨(some 18), none, .mov (.tmp 73)⟩] [0, 1, 3, 4, 10, 11, 12, 13, 17, 18])
          (.seq (.ops [⟨(some 74), none, .mov (.tmp 13)⟩,
              ⟨(some 75), none, .mov (.tmp 1)⟩,
              ⟨(some 76), none, .mov (.tmp 18)⟩,
              ⟨(some 77), none, .mov (.tmp 17)⟩,
              ⟨(some 78), none, .bin .mul (.tmp 76) (.tmp 77)⟩,
              ⟨(some 79), none, .bin .sub (.tmp 75) (.tmp 78)⟩,
              ⟨(some 80), none, .idxStr (.const (.string ⟨#[48, 49, 50, 51, 52, 53, 54, 55, 56, 57, 97, 98, 99, 100, 101, 102, 103, 104, 105, 106, 107, 108, 109, 110, 111, 112, 113, 114, 115, 116, 117, 118, 119, 120, 121, 122]⟩)) (.tmp 79)⟩,
              ⟨(some 81), none, .idxA 65 1 (.tmp 12) (.tmp 74)⟩,
              ⟨none, none, .store 1 (.tmp 81) (.tmp 80)⟩] [0, 3, 4, 10, 11, 12, 13, 17, 18])
          (.ops [⟨(some 82), none, .mov (.tmp 18)⟩,
              ⟨(some 1), none, .mov (.tmp 82)⟩] [0, 1, 3, 4, 10, 11, 12, 13, 17])))))
def c85l1 : AC :=
  .seq (.seq (.ops [⟨(some 44), none, .mov (.tmp 1)⟩,
            ⟨(some 45), none, .mov (.tmp 15)⟩,
            ⟨(some 46), none, .bin .geq (.tmp 44) (.tmp 45)⟩] [0, 1, 3, 4, 10, 11, 12, 13, 14, 15, 16, 46])
        (.cond (.tmp 46)
          (.skip)
          (.exit 0)))
        (.block 1
          (.seq (.ops [⟨(some 47), none, .mov (.tmp 13)⟩,
              ⟨(some 48), none, .bin .sub (.tmp 47) (.const (.int .i64 1))⟩,
              ⟨(some 13), none, .mov (.tmp 48)⟩] [0, 1, 3, 4, 10, 11, 12, 13, 14, 15, 16])
          (.seq (.ops [⟨(some 49), none, .mov (.tmp 13)⟩,
              ⟨(some 50), none, .mov (.tmp 1)⟩,
              ⟨(some 51), none, .mov (.tmp 16)⟩,
              ⟨(some 52), none, .bin .and (.tmp 50) (.tmp 51)⟩,
              ⟨(some 53), none, .idxStr (.const (.string ⟨#[48, 49, 50, 51, 52, 53, 54, 55, 56, 57, 97, 98, 99, 100, 101, 102, 103, 104, 105, 106, 107, 108, 109, 110, 111, 112, 113, 114, 115, 116, 117, 118, 119, 120, 121, 122]⟩)) (.tmp 52)⟩,
              ⟨(some 54), none, .idxA 65 1 (.tmp 12) (.tmp 49)⟩,
              ⟨none, none, .store 1 (.tmp 54) (.tmp 53)⟩] [0, 1, 3, 4, 10, 11, 12, 13, 14, 15, 16])
          (.ops [⟨(some 55), none, .mov (.tmp 1)⟩,
              ⟨(some 56), none, .mov (.tmp 14)⟩,
              ⟨(some 57), none, .bin .shr (.tmp 55) (.tmp 56)⟩,
              ⟨(some 1), none, .mov (.tmp 57)⟩] [0, 1, 3, 4, 10, 11, 12, 13, 14, 15, 16]))))
def c85 : AFun := ⟨
  .seq (.ops [⟨(some 10), none, .mov (.const (.slice none 0 0))⟩,
      ⟨(some 11), none, .mov (.const (.string ⟨#[]⟩))⟩] [0, 1, 2, 3, 4, 10, 11])
  (.seq (.seq (.ops [⟨(some 19), none, .mov (.tmp 2)⟩,
      ⟨(some 20), none, .bin .lss (.tmp 19) (.const (.int .i64 2))⟩,
      ⟨(some 21), none, .mov (.tmp 20)⟩,
      ⟨(some 22), (some (21, false)), .mov (.tmp 2)⟩,
      ⟨(some 23), (some (21, false)), .bin .eql (.tmp 22) (.const (.int .i64 10))⟩,
      ⟨(some 24), none, .pick (.tmp 21) (.const (.bool true)) (.tmp 23)⟩,
      ⟨(some 25), none, .mov (.tmp 24)⟩,
      ⟨(some 26), (some (25, false)), .mov (.tmp 2)⟩,
      ⟨(some 27), (some (25, false)), .bin .gtr (.tmp 26) (.const (.int .i64 36))⟩,
      ⟨(some 28), none, .pick (.tmp 25) (.const (.bool true)) (.tmp 27)⟩] [0, 1, 2, 3, 4, 10, 11, 28])
  (.cond (.tmp 28)
    (.ops [⟨(some 29), none, .mkIf 9 (.const (.string ⟨#[115, 116, 114, 99, 111, 110, 118, 58, 32, 105, 108, 108, 101, 103, 97, 108, 32, 65, 112, 112, 101, 110, 100, 73, 110, 116, 47, 70, 111, 114, 109, 97, 116, 73, 110, 116, 32, 98, 97, 115, 101]⟩))⟩,
        ⟨none, none, .bad⟩] [0, 1, 2, 3, 4, 10, 11])
    (.skip)))
  (.seq (.ops [⟨(some 12), none, .alloc 138 [(65, (.int .u8 0))]⟩] [0, 1, 2, 3, 4, 10, 11, 12])
  (.seq (.ops [⟨(some 13), none, .mov (.const (.int .i64 65))⟩] [0, 1, 2, 3, 4, 10, 11, 12, 13])
  (.seq (.seq (.ops [⟨(some 30), none, .mov (.tmp 3)⟩] [0, 1, 2, 3, 4, 10, 11, 12, 13, 30])
  (.cond (.tmp 30)
    (.ops [⟨(some 31), none, .mov (.tmp 1)⟩,
        ⟨(some 32), none, .un .neg (.tmp 31)⟩,
        ⟨(some 1), none, .mov (.tmp 32)⟩] [0, 1, 2, 3, 4, 10, 11, 12, 13])
    (.skip)))
  (.seq (.seq (.ops [⟨(some 33), none, .mov (.tmp 2)⟩,
      ⟨(some 34), none, .callF 97 [(.tmp 33)]⟩] [0, 1, 2, 3, 4, 10, 11, 12, 13, 34])
  (.cond (.tmp 34)
    (.seq (.ops [⟨(some 35), none, .mov (.tmp 2)⟩,
        ⟨(some 36), none, .convI .u64 (.tmp 35)⟩,
        ⟨(some 37), none, .callF 98 [(.tmp 36)]⟩,
        ⟨(some 38), none, .convI .u64 (.tmp 37)⟩,
        ⟨(some 14), none, .mov (.tmp 38)⟩] [0, 1, 2, 3, 4, 10, 11, 12, 13, 14])
    (.seq (.ops [⟨(some 39), none, .mov (.tmp 2)⟩,
        ⟨(some 40), none, .convI .u64 (.tmp 39)⟩,
        ⟨(some 15), none, .mov (.tmp 40)⟩] [0, 1, 2, 3, 4, 10, 11, 12, 13, 14, 15])
    (.seq (.ops [⟨(some 41), none, .mov (.tmp 2)⟩,
        ⟨(some 42), none, .convI .u64 (.tmp 41)⟩,
        ⟨(some 43), none, .bin .sub (.tmp 42) (.const (.int .u64 1))⟩,
        ⟨(some 16), none, .mov (.tmp 43)⟩] [0, 1, 3, 4, 10, 11, 12, 13, 14, 15, 16])
    (.seq (.block 0
      (.loop [0, 1, 3, 4, 10, 11, 12, 13, 14, 15, 16]
        c85l1))
    (.seq (.ops [⟨(some 58), none, .mov (.tmp 13)⟩,
        ⟨(some 59), none, .bin .sub (.tmp 58) (.const (.int .i64 1))⟩,
        ⟨(some 13), none, .mov (.tmp 59)⟩] [0, 1, 3, 4, 10, 11, 12, 13])
    (.ops [⟨(some 60), none, .mov (.tmp 13)⟩,
        ⟨(some 61), none, .mov (.tmp 1)⟩,
        ⟨(some 62), none, .idxStr (.const (.string ⟨#[48, 49, 50, 51, 52, 53, 54, 55, 56, 57, 97, 98, 99, 100, 101, 102, 103, 104, 105, 106, 107, 108, 109, 110, 111, 112, 113, 114, 115, 116, 117, 118, 119, 120, 121, 122]⟩)) (.tmp 61)⟩,
        ⟨(some 63), none, .idxA 65 1 (.tmp 12) (.tmp 60)⟩,
        ⟨none, none, .store 1 (.tmp 63) (.tmp 62)⟩] [0, 3, 4, 10, 11, 12, 13]))))))
    (.seq (.ops [⟨(some 64), none, .mov (.tmp 2)⟩,
        ⟨(some 65), none, .convI .u64 (.tmp 64)⟩,
        ⟨(some 17), none, .mov (.tmp 65)⟩] [0, 1, 3, 4, 10, 11, 12, 13, 17])
    (.seq (.block 2
      (.loop [0, 1, 3, 4, 10, 11, 12, 13, 17]
        c85l0))
    (.seq (.ops [⟨(some 83), none, .mov (.tmp 13)⟩,
        ⟨(some 84), none, .bin .sub (.tmp 83) (.const (.int .i64 1))⟩,
        ⟨(some 13), none, .mov (.tmp 84)⟩] [0, 1, 3, 4, 10, 11, 12, 13])
    (.ops [⟨(some 85), none, .mov (.tmp 13)⟩,
        ⟨(some 86), none, .mov (.tmp 1)⟩,
        ⟨(some 87), none, .idxStr (.const (.string ⟨#[48, 49, 50, 51, 52, 53, 54, 55, 56, 57, 97, 98, 99, 100, 101, 102, 103, 104, 105, 106, 107, 108, 109, 110, 111, 112, 113, 114, 115, 116, 117, 118, 119, 120, 121, 122]⟩)) (.tmp 86)⟩,
        ⟨(some 88), none, .idxA 65 1 (.tmp 12) (.tmp 85)⟩,
        ⟨none, none, .store 1 (.tmp 88) (.tmp 87)⟩] [0, 3, 4, 10, 11, 12, 13]))))))
  (.seq (.seq (.ops [⟨(some 89), none, .mov (.tmp 3)⟩] [0, 4, 10, 11, 12, 13, 89])
  (.cond (.tmp 89)
    (.seq (.ops [⟨(some 90), none, .mov (.tmp 13)⟩,
        ⟨(some 91), none, .bin .sub (.tmp 90) (.const (.int .i64 1))⟩,
        ⟨(some 13), none, .mov (.tmp 91)⟩] [0, 4, 10, 11, 12, 13])
    (.ops [⟨(some 92), none, .mov (.tmp 13)⟩,
        ⟨(some 93), none, .idxA 65 1 (.tmp 12) (.tmp 92)⟩,
        ⟨none, none, .store 1 (.tmp 93) (.const (.int .u8 45))⟩] [0, 4, 10, 11, 12, 13]))
    (.skip)))
  (.seq (.seq (.ops [⟨(some 94), none, .mov (.tmp 4)⟩] [0, 10, 11, 12, 13, 94])
  (.cond (.tmp 94)
    (.seq (.ops [⟨(some 95), none, .mov (.tmp 0)⟩,
        ⟨(some 96), none, .mov (.tmp 13)⟩,
        ⟨(some 97), none, .slcA 65 1 (.tmp 12) (some (.tmp 96)) none⟩,
        ⟨(some 98), none, .app 5 1 1 (.tmp 95) (.tmp 97)⟩,
        ⟨(some 10), none, .mov (.tmp 98)⟩] [10, 11])
    (.ret))
    (.skip)))
  (.seq (.ops [⟨(some 99), none, .mov (.tmp 13)⟩,
      ⟨(some 100), none, .slcA 65 1 (.tmp 12) (some (.tmp 99)) none⟩,
      ⟨(some 101), none, .b2s (.tmp 100)⟩,
      ⟨(some 11), none, .mov (.tmp 101)⟩] [10, 11])
  (.ret))))))))),
  102, [(10, none), (11, none)], true⟩
theorem ok85 : FunOK Tryd.prog 85 c85 := ⟨⟨Tryd.f85, _, c85.code, Tryd.func85, rfl, by kernel_rfl, rfl, by kernel_rfl, by kernel_rfl⟩⟩
/- unicode/utf8.RuneCountInString -/
def c87l0 : AC :=
  .seq (.ops [⟨(some 5), none, .nextS (.tmp 4)⟩,
          ⟨(some 6), none, .ext (.tmp 5) 0⟩] [2, 4, 6])
      (.seq (.cond (.tmp 6)
        (.skip)
        (.exit 0))
      (.block 1
        (.ops [⟨(some 7), none, .mov (.tmp 2)⟩,
            ⟨(some 8), none, .bin .add (.tmp 7) (.const (.int .i64 1))⟩,
            ⟨(some 2), none, .mov (.tmp 8)⟩] [2, 4])))
def c87 : AFun := ⟨
  .seq (.ops [⟨(some 2), none, .mov (.const (.int .i64 0))⟩] [0, 2])
  (.seq (.seq (.ops [⟨(some 3), none, .mov (.tmp 0)⟩,
      ⟨(some 4), none, .rangeS (.tmp 3)⟩] [2, 4])
  (.block 0
    (.loop [2, 4]
      c87l0)))
  (.seq (.ops [⟨(some 9), none, .mov (.tmp 2)⟩,
      ⟨(some 2), none, .mov (.tmp 9)⟩] [2])
  (.ret))),
  10, [(2, none)], true⟩
theorem ok87 : FunOK Tryd.prog 87 c87 := ⟨⟨Tryd.f87, _, c87.code, Tryd.func87, rfl, by kernel_rfl, rfl, by kernel_rfl, by kernel_rfl⟩⟩
/- internal/stringslite.Index -/
def c89l0 : AC :=
  .seq (.seq (.ops [⟨(some 57), none, .mov (.tmp 8)⟩,
          ⟨(some 58), none, .mov (.tmp 9)⟩,
          ⟨(some 59), none, .bin .lss (.tmp 57) (.tmp 58)⟩] [0, 1, 5, 6, 7, 8, 9, 10, 59])
      (.cond (.tmp 59)
        (.skip)
        (.exit 1)))
      (.block 2
        (.seq (.seq (.ops [⟨(some 60), none, .mov (.tmp 0)⟩,
            ⟨(some 61), none, .mov (.tmp 8)⟩,
            ⟨(some 62), none, .idxStr (.tmp 60) (.tmp 61)⟩,
            ⟨(some 63), none, .mov (.tmp 6)⟩,
            ⟨(some 64), none, .bin .neq (.tmp 62) (.tmp 63)⟩] [0, 1, 5, 6, 7, 8, 9, 10, 64])
        (.cond (.tmp 64)
          (.seq (.ops [⟨(some 65), none, .mov (.tmp 0)⟩,
              ⟨(some 66), none, .mov (.tmp 8)⟩,
              ⟨(some 67), none, .bin .add (.tmp 66) (.const (.int .i64 1))⟩,
              ⟨(some 68), none, .mov (.tmp 9)⟩,
              ⟨(some 69), none, .slcS (.tmp 65) (some (.tmp 67)) (some (.tmp 68))⟩,
              ⟨(some 70), none, .mov (.tmp 6)⟩,
              ⟨(some 71), none, .callF 99 [(.tmp 69), (.tmp 70)]⟩,
              ⟨(some 11), none, .mov (.tmp 71)⟩] [0, 1, 5, 6, 7, 8, 9, 10, 11])
          (.seq (.seq (.ops [⟨(some 72), none, .mov (.tmp 11)⟩,
              ⟨(some 73), none, .bin .lss (.tmp 72) (.const (.int .i64 0))⟩] [0, 1, 5, 6, 7, 8, 9, 10, 11, 73])
          (.cond (.tmp 73)
            (.seq (.ops [⟨(some 4), none, .mov (.const (.int .i64 (-1)))⟩] [4])
            (.ret))
            (.skip)))
          (.ops [⟨(some 74), none, .mov (.tmp 8)⟩,
              ⟨(some 75), none, .mov (.tmp 11)⟩,
              ⟨(some 76), none, .bin .add (.tmp 75) (.const (.int .i64 1))⟩,
              ⟨(some 77), none, .bin .add (.tmp 74) (.tmp 76)⟩,
              ⟨(some 8), none, .mov (.tmp 77)⟩] [0, 1, 5, 6, 7, 8, 9, 10])))
          (.skip)))
        (.seq (.seq (.ops [⟨(some 78), none, .mov (.tmp 0)⟩,
            ⟨(some 79), none, .mov (.tmp 8)⟩,
            ⟨(some 80), none, .bin .add (.tmp 79) (.const (.int .i64 1))⟩,
            ⟨(some 81), none, .idxStr (.tmp 78) (.tmp 80)⟩,
            ⟨(some 82), none, .mov (.tmp 7)⟩,
            ⟨(some 83), none, .bin .eql (.tmp 81) (.tmp 82)⟩,
            ⟨(some 84), none, .mov (.tmp 83)⟩,
            ⟨(some 85), (some (84, true)), .mov (.tmp 0)⟩,
            ⟨(some 86), (some (84, true)), .mov (.tmp 8)⟩,
            ⟨(some 87), (some (84, true)), .mov (.tmp 8)⟩,
            ⟨(some 88), (some (84, true)), .mov (.tmp 5)⟩,
            ⟨(some 89), (some (84, true)), .bin .add (.tmp 87) (.tmp 88)⟩,
            ⟨(some 90), (some (84, true)), .slcS (.tmp 85) (some (.tmp 86)) (some (.tmp 89))⟩,
            ⟨(some 91), (some (84, true)), .mov (.tmp 1)⟩,
            ⟨(some 92), (some (84, true)), .bin .eql (.tmp 90) (.tmp 91)⟩,
            ⟨(some 93), none, .pick (.tmp 84) (.tmp 92) (.const (.bool false))⟩] [0, 1, 5, 6, 7, 8, 9, 10, 93])
        (.cond (.tmp 93)
          (.seq (.ops [⟨(some 94), none, .mov (.tmp 8)⟩,
              ⟨(some 4), none, .mov (.tmp 94)⟩] [4])
          (.ret))
          (.skip)))
        (.seq (.ops [⟨(some 95), none, .mov (.tmp 8)⟩,
            ⟨(some 96), none, .bin .add (.tmp 95) (.const (.int .i64 1))⟩,
            ⟨(some 8), none, .mov (.tmp 96)⟩] [0, 1, 5, 6, 7, 8, 9, 10])
        (.seq (.ops [⟨(some 97), none, .mov (.tmp 10)⟩,
            ⟨(some 98), none, .bin .add (.tmp 97) (.const (.int .i64 1))⟩,
            ⟨(some 10), none, .mov (.tmp 98)⟩] [0, 1, 5, 6, 7, 8, 9, 10])
        (.seq (.ops [⟨(some 99), none, .mov (.tmp 5)⟩,
            ⟨(some 100), none, .load none (.global 3)⟩,
            ⟨(some 101), none, .bin .leq (.tmp 99) (.tmp 100)⟩,
            ⟨(some 102), none, .mov (.tmp 101)⟩,
            ⟨(some 103), (some (102, true)), .mov (.tmp 10)⟩,
            ⟨(some 104), (some (102, true)), .mov (.tmp 8)⟩,
            ⟨(some 105), (some (102, true)), .callF 101 [(.tmp 104)]⟩,
            ⟨(some 106), (some (102, true)), .bin .gtr (.tmp 103) (.tmp 105)⟩,
            ⟨(some 107), none, .pick (.tmp 102) (.tmp 106) (.const (.bool false))⟩] [0, 1, 5, 6, 7, 8, 9, 10, 107])
        (.cond (.tmp 107)
          (.seq (.ops [⟨(some 108), none, .mov (.tmp 0)⟩,
              ⟨(some 109), none, .mov (.tmp 8)⟩,
              ⟨(some 110), none, .slcS (.tmp 108) (some (.tmp 109)) none⟩,
              ⟨(some 111), none, .mov (.tmp 1)⟩,
              ⟨(some 112), none, .callF 100 [(.tmp 110), (.tmp 111)]⟩,
              ⟨(some 12), none, .mov (.tmp 112)⟩] [8, 12])
          (.seq (.seq (.ops [⟨(some 113), none, .mov (.tmp 12)⟩,
              ⟨(some 114), none, .bin .geq (.tmp 113) (.const (.int .i64 0))⟩] [8, 12, 114])
          (.cond (.tmp 114)
            (.seq (.ops [⟨(some 115), none, .mov (.tmp 12)⟩,
                ⟨(some 116), none, .mov (.tmp 8)⟩,
                ⟨(some 117), none, .bin .add (.tmp 115) (.tmp 116)⟩,
                ⟨(some 4), none, .mov (.tmp 117)⟩] [4])
            (.ret))
            (.skip)))
          (.seq (.ops [⟨(some 4), none, .mov (.const (.int .i64 (-1)))⟩] [4])
          (.ret))))
          (.seq (.ops [⟨(some 118), none, .mov (.tmp 5)⟩,
              ⟨(some 119), none, .load none (.global 3)⟩,
              ⟨(some 120), none, .bin .gtr (.tmp 118) (.tmp 119)⟩,
              ⟨(some 121), none, .mov (.tmp 120)⟩,
              ⟨(some 122), (some (121, true)), .mov (.tmp 10)⟩,
              ⟨(some 123), (some (121, true)), .mov (.tmp 8)⟩,
              ⟨(some 124), (some (121, true)), .bin .shr (.tmp 123) (.const (.int .u64 4))⟩,
              ⟨(some 125), (some (121, true)), .bin .add (.const (.int .i64 4)) (.tmp 124)⟩,
              ⟨(some 126), (some (121, true)), .bin .geq (.tmp 122) (.tmp 125)⟩,
              ⟨(some 127), none, .pick (.tmp 121) (.tmp 126) (.const (.bool false))⟩,
              ⟨(some 128), none, .mov (.tmp 127)⟩,
              ⟨(some 129), (some (128, true)), .mov (.tmp 8)⟩,
              ⟨(some 130), (some (128, true)), .mov (.tmp 9)⟩,
              ⟨(some 131), (some (128, true)), .bin .lss (.tmp 129) (.tmp 130)⟩,
              ⟨(some 132), none, .pick (.tmp 128) (.tmp 131) (.const (.bool false))⟩] [0, 1, 5, 6, 7, 8, 9, 10, 132])
          (.cond (.tmp 132)
            (.seq (.ops [⟨(some 133), none, .mov (.tmp 0)⟩,
                ⟨(some 134), none, .mov (.tmp 8)⟩,
                ⟨(some 135), none, .slcS (.tmp 133) (some (.tmp 134)) none⟩,
                ⟨(some 136), none, .mov (.tmp 1)⟩,
                ⟨(some 137), none, .callF 102 [(.tmp 135), (.tmp 136)]⟩,
                ⟨(some 13), none, .mov (.tmp 137)⟩] [8, 13])
            (.seq (.seq (.ops [⟨(some 138), none, .mov (.tmp 13)⟩,
                ⟨(some 139), none, .bin .lss (.tmp 138) (.const (.int .i64 0))⟩] [8, 13, 139])
            (.cond (.tmp 139)
              (.seq (.ops [⟨(some 4), none, .mov (.const (.int .i64 (-1)))⟩] [4])
              (.ret))
              (.skip)))
            (.seq (.ops [⟨(some 140), none, .mov (.tmp 8)⟩,
                ⟨(some 141), none, .mov (.tmp 13)⟩,
                ⟨(some 142), none, .bin .add (.tmp 140) (.tmp 141)⟩,
                ⟨(some 4), none, .mov (.tmp 142)⟩] [4])
            (.ret))))
            (.skip))))))))))
def c89 : AFun := ⟨
  .seq (.ops [⟨(some 4), none, .mov (.const (.int .i64 0))⟩] [0, 1])
  (.seq (.ops [⟨(some 14), none, .mov (.tmp 1)⟩,
      ⟨(some 15), none, .len true (.tmp 14)⟩,
      ⟨(some 5), none, .mov (.tmp 15)⟩] [0, 1, 5])
  (.seq (.block 0
    (.seq (.ops [⟨(some 17), none, .mov (.tmp 5)⟩,
        ⟨(some 18), none, .bin .eql (.tmp 17) (.const (.int .i64 0))⟩,
        ⟨(some 19), none, .mov (.tmp 18)⟩,
        ⟨(some 20), (some (19, false)), .mov (.tmp 1)⟩,
        ⟨(some 21), (some (19, false)), .mov (.tmp 0)⟩,
        ⟨(some 22), (some (19, false)), .bin .eql (.tmp 20) (.tmp 21)⟩,
        ⟨(some 23), none, .pick (.tmp 19) (.const (.bool true)) (.tmp 22)⟩,
        ⟨(some 16), none, .mov (.tmp 23)⟩] [0, 1, 5, 16])
    (.cond (.tmp 16)
      (.seq (.ops [⟨(some 4), none, .mov (.const (.int .i64 0))⟩] [4])
      (.ret))
      (.seq (.ops [⟨(some 25), none, .mov (.tmp 5)⟩,
          ⟨(some 26), none, .bin .eql (.tmp 25) (.const (.int .i64 1))⟩,
          ⟨(some 24), none, .mov (.tmp 26)⟩] [0, 1, 5, 24])
      (.cond (.tmp 24)
        (.seq (.ops [⟨(some 27), none, .mov (.tmp 0)⟩,
            ⟨(some 28), none, .mov (.tmp 1)⟩,
            ⟨(some 29), none, .idxStr (.tmp 28) (.const (.int .i64 0))⟩,
            ⟨(some 30), none, .callF 99 [(.tmp 27), (.tmp 29)]⟩,
            ⟨(some 4), none, .mov (.tmp 30)⟩] [4])
        (.ret))
        (.seq (.ops [⟨(some 32), none, .mov (.tmp 5)⟩,
            ⟨(some 33), none, .mov (.tmp 0)⟩,
            ⟨(some 34), none, .len true (.tmp 33)⟩,
            ⟨(some 35), none, .bin .geq (.tmp 32) (.tmp 34)⟩,
            ⟨(some 31), none, .mov (.tmp 35)⟩] [0, 1, 5, 31])
        (.cond (.tmp 31)
          (.seq (.ops [⟨(some 4), none, .mov (.const (.int .i64 (-1)))⟩] [4])
          (.ret))
          (.seq (.ops [⟨(some 37), none, .mov (.tmp 5)⟩,
              ⟨(some 38), none, .load none (.global 3)⟩,
              ⟨(some 39), none, .bin .leq (.tmp 37) (.tmp 38)⟩,
              ⟨(some 40), none, .mov (.tmp 39)⟩,
              ⟨(some 41), (some (40, true)), .mov (.tmp 0)⟩,
              ⟨(some 42), (some (40, true)), .len true (.tmp 41)⟩,
              ⟨(some 43), (some (40, true)), .bin .leq (.tmp 42) (.const (.int .i64 64))⟩,
              ⟨(some 44), none, .pick (.tmp 40) (.tmp 43) (.const (.bool false))⟩,
              ⟨(some 36), none, .mov (.tmp 44)⟩] [0, 1, 5, 36])
          (.cond (.tmp 36)
            (.seq (.ops [⟨(some 45), none, .mov (.tmp 0)⟩,
                ⟨(some 46), none, .mov (.tmp 1)⟩,
                ⟨(some 47), none, .callF 100 [(.tmp 45), (.tmp 46)]⟩,
                ⟨(some 4), none, .mov (.tmp 47)⟩] [4])
            (.ret))
            (.skip))))))))))
  (.seq (.ops [⟨(some 48), none, .mov (.tmp 1)⟩,
      ⟨(some 49), none, .idxStr (.tmp 48) (.const (.int .i64 0))⟩,
      ⟨(some 6), none, .mov (.tmp 49)⟩] [0, 1, 5, 6])
  (.seq (.ops [⟨(some 50), none, .mov (.tmp 1)⟩,
      ⟨(some 51), none, .idxStr (.tmp 50) (.const (.int .i64 1))⟩,
      ⟨(some 7), none, .mov (.tmp 51)⟩] [0, 1, 5, 6, 7])
  (.seq (.ops [⟨(some 8), none, .mov (.const (.int .i64 0))⟩] [0, 1, 5, 6, 7, 8])
  (.seq (.ops [⟨(some 52), none, .mov (.tmp 0)⟩,
      ⟨(some 53), none, .len true (.tmp 52)⟩,
      ⟨(some 54), none, .mov (.tmp 5)⟩,
      ⟨(some 55), none, .bin .sub (.tmp 53) (.tmp 54)⟩,
      ⟨(some 56), none, .bin .add (.tmp 55) (.const (.int .i64 1))⟩,
      ⟨(some 9), none, .mov (.tmp 56)⟩] [0, 1, 5, 6, 7, 8, 9])
  (.seq (.ops [⟨(some 10), none, .mov (.const (.int .i64 0))⟩] [0, 1, 5, 6, 7, 8, 9, 10])
  (.seq (.block 1
    (.loop [0, 1, 5, 6, 7, 8, 9, 10]
      c89l0))
  (.seq (.ops [⟨(some 4), none, .mov (.const (.int .i64 (-1)))⟩] [4])
  (.ret)))))))))),
  143, [(4, none)], true⟩
theorem ok89 : FunOK Tryd.prog 89 c89 := ⟨⟨Tryd.f89, _, c89.code, Tryd.func89, rfl, by kernel_rfl, rfl, by kernel_rfl, by kernel_rfl⟩⟩
/- unicode/utf8.decodeRuneInStringSlow -/
def c90 : AFun := ⟨
  .seq (.ops [⟨(some 2), none, .mov (.const (.int .i32 0))⟩,
      ⟨(some 3), none, .mov (.const (.int .i64 0))⟩] [0])
  (.seq (.ops [⟨(some 13), none, .mov (.tmp 0)⟩,
      ⟨(some 14), none, .len true (.tmp 13)⟩,
      ⟨(some 4), none, .mov (.tmp 14)⟩] [0, 4])
  (.seq (.seq (.ops [⟨(some 15), none, .mov (.tmp 4)⟩,
      ⟨(some 16), none, .bin .lss (.tmp 15) (.const (.int .i64 1))⟩] [0, 4, 16])
  (.cond (.tmp 16)
    (.seq (.ops [⟨(some 2), none, .mov (.const (.int .i32 65533))⟩,
        ⟨(some 3), none, .mov (.const (.int .i64 0))⟩] [2, 3])
    (.ret))
    (.skip)))
  (.seq (.ops [⟨(some 17), none, .mov (.tmp 0)⟩,
      ⟨(some 18), none, .idxStr (.tmp 17) (.const (.int .i64 0))⟩,
      ⟨(some 5), none, .mov (.tmp 18)⟩] [0, 4, 5])
  (.seq (.ops [⟨(some 19), none, .mov (.tmp 5)⟩,
      ⟨(some 20), none, .idxA 256 1 (.global 4) (.tmp 19)⟩,
      ⟨(some 21), none, .load none (.tmp 20)⟩,
      ⟨(some 6), none, .mov (.tmp 21)⟩] [0, 4, 5, 6])
  (.seq (.seq (.ops [⟨(some 22), none, .mov (.tmp 6)⟩,
      ⟨(some 23), none, .bin .geq (.tmp 22) (.const (.int .u8 240))⟩] [0, 4, 5, 6, 23])
  (.cond (.tmp 23)
    (.seq (.ops [⟨(some 24), none, .mov (.tmp 6)⟩,
        ⟨(some 25), none, .convI .i32 (.tmp 24)⟩,
        ⟨(some 26), none, .bin .shl (.tmp 25) (.const (.int .u64 31))⟩,
        ⟨(some 27), none, .bin .shr (.tmp 26) (.const (.int .u64 31))⟩,
        ⟨(some 7), none, .mov (.tmp 27)⟩] [0, 7])
    (.seq (.ops [⟨(some 28), none, .mov (.tmp 0)⟩,
        ⟨(some 29), none, .idxStr (.tmp 28) (.const (.int .i64 0))⟩,
        ⟨(some 30), none, .convI .i32 (.tmp 29)⟩,
        ⟨(some 31), none, .mov (.tmp 7)⟩,
        ⟨(some 32), none, .bin .andNot (.tmp 30) (.tmp 31)⟩,
        ⟨(some 33), none, .mov (.tmp 7)⟩,
        ⟨(some 34), none, .bin .and (.const (.int .i32 65533)) (.tmp 33)⟩,
        ⟨(some 35), none, .bin .or (.tmp 32) (.tmp 34)⟩,
        ⟨(some 2), none, .mov (.tmp 35)⟩,
        ⟨(some 3), none, .mov (.const (.int .i64 1))⟩] [2, 3])
    (.ret)))
    (.skip)))
  (.seq (.ops [⟨(some 36), none, .mov (.tmp 6)⟩,
      ⟨(some 37), none, .bin .and (.tmp 36) (.const (.int .u8 7))⟩,
      ⟨(some 38), none, .convI .i64 (.tmp 37)⟩,
      ⟨(some 8), none, .mov (.tmp 38)⟩] [0, 4, 5, 6, 8])
  (.seq (.ops [⟨(some 39), none, .mov (.tmp 6)⟩,
      ⟨(some 40), none, .bin .shr (.tmp 39) (.const (.int .u64 4))⟩,
      ⟨(some 41), none, .idxA 16 2 (.global 5) (.tmp 40)⟩,
      ⟨(some 42), none, .load (some 2) (.tmp 41)⟩,
      ⟨(some 9), none, .alloc 142 [(2, (.int .u8 0))]⟩,
      ⟨none, none, .store 2 (.tmp 9) (.tmp 42)⟩] [0, 4, 5, 8, 9])
  (.seq (.seq (.ops [⟨(some 43), none, .mov (.tmp 4)⟩,
      ⟨(some 44), none, .mov (.tmp 8)⟩,
      ⟨(some 45), none, .bin .lss (.tmp 43) (.tmp 44)⟩] [0, 5, 8, 9, 45])
  (.cond (.tmp 45)
    (.seq (.ops [⟨(some 2), none, .mov (.const (.int .i32 65533))⟩,
        ⟨(some 3), none, .mov (.const (.int .i64 1))⟩] [2, 3])
    (.ret))
    (.skip)))
  (.seq (.ops [⟨(some 46), none, .mov (.tmp 0)⟩,
      ⟨(some 47), none, .idxStr (.tmp 46) (.const (.int .i64 1))⟩,
      ⟨(some 10), none, .mov (.tmp 47)⟩] [0, 5, 8, 9, 10])
  (.seq (.seq (.ops [⟨(some 48), none, .mov (.tmp 10)⟩,
      ⟨(some 49), none, .fldA 0 (.tmp 9)⟩,
      ⟨(some 50), none, .load none (.tmp 49)⟩,
      ⟨(some 51), none, .bin .lss (.tmp 48) (.tmp 50)⟩,
      ⟨(some 52), none, .mov (.tmp 51)⟩,
      ⟨(some 53), (some (52, false)), .fldA 1 (.tmp 9)⟩,
      ⟨(some 54), (some (52, false)), .load none (.tmp 53)⟩,
      ⟨(some 55), (some (52, false)), .mov (.tmp 10)⟩,
      ⟨(some 56), (some (52, false)), .bin .lss (.tmp 54) (.tmp 55)⟩,
      ⟨(some 57), none, .pick (.tmp 52) (.const (.bool true)) (.tmp 56)⟩] [0, 5, 8, 10, 57])
  (.cond (.tmp 57)
    (.seq (.ops [⟨(some 2), none, .mov (.const (.int .i32 65533))⟩,
        ⟨(some 3), none, .mov (.const (.int .i64 1))⟩] [2, 3])
    (.ret))
    (.skip)))
  (.seq (.seq (.ops [⟨(some 58), none, .mov (.tmp 8)⟩,
      ⟨(some 59), none, .bin .leq (.tmp 58) (.const (.int .i64 2))⟩] [0, 5, 8, 10, 59])
  (.cond (.tmp 59)
    (.seq (.ops [⟨(some 60), none, .mov (.tmp 5)⟩,
        ⟨(some 61), none, .bin .and (.tmp 60) (.const (.int .u8 31))⟩,
        ⟨(some 62), none, .convI .i32 (.tmp 61)⟩,
        ⟨(some 63), none, .bin .shl (.tmp 62) (.const (.int .u64 6))⟩,
        ⟨(some 64), none, .mov (.tmp 10)⟩,
        ⟨(some 65), none, .bin .and (.tmp 64) (.const (.int .u8 63))⟩,
        ⟨(some 66), none, .convI .i32 (.tmp 65)⟩,
        ⟨(some 67), none, .bin .or (.tmp 63) (.tmp 66)⟩,
        ⟨(some 2), none, .mov (.tmp 67)⟩,
        ⟨(some 3), none, .mov (.const (.int .i64 2))⟩] [2, 3])
    (.ret))
    (.skip)))
  (.seq (.ops [⟨(some 68), none, .mov (.tmp 0)⟩,
      ⟨(some 69), none, .idxStr (.tmp 68) (.const (.int .i64 2))⟩,
      ⟨(some 11), none, .mov (.tmp 69)⟩] [0, 5, 8, 10, 11])
  (.seq (.seq (.ops [⟨(some 70), none, .mov (.tmp 11)⟩,
      ⟨(some 71), none, .bin .lss (.tmp 70) (.const (.int .u8 128))⟩,
      ⟨(some 72), none, .mov (.tmp 71)⟩,
      ⟨(some 73), (some (72, false)), .mov (.tmp 11)⟩,
      ⟨(some 74), (some (72, false)), .bin .lss (.const (.int .u8 191)) (.tmp 73)⟩,
      ⟨(some 75), none, .pick (.tmp 72) (.const (.bool true)) (.tmp 74)⟩] [0, 5, 8, 10, 11, 75])
  (.cond (.tmp 75)
    (.seq (.ops [⟨(some 2), none, .mov (.const (.int .i32 65533))⟩,
        ⟨(some 3), none, .mov (.const (.int .i64 1))⟩] [2, 3])
    (.ret))
    (.skip)))
  (.seq (.seq (.ops [⟨(some 76), none, .mov (.tmp 8)⟩,
      ⟨(some 77), none, .bin .leq (.tmp 76) (.const (.int .i64 3))⟩] [0, 5, 10, 11, 77])
  (.cond (.tmp 77)
    (.seq (.ops [⟨(some 78), none, .mov (.tmp 5)⟩,
        ⟨(some 79), none, .bin .and (.tmp 78) (.const (.int .u8 15))⟩,
        ⟨(some 80), none, .convI .i32 (.tmp 79)⟩,
        ⟨(some 81), none, .bin .shl (.tmp 80) (.const (.int .u64 12))⟩,
        ⟨(some 82), none, .mov (.tmp 10)⟩,
        ⟨(some 83), none, .bin .and (.tmp 82) (.const (.int .u8 63))⟩,
        ⟨(some 84), none, .convI .i32 (.tmp 83)⟩,
        ⟨(some 85), none, .bin .shl (.tmp 84) (.const (.int .u64 6))⟩,
        ⟨(some 86), none, .bin .or (.tmp 81) (.tmp 85)⟩,
        ⟨(some 87), none, .mov (.tmp 11)⟩,
        ⟨(some 88), none, .bin .and (.tmp 87) (.const (.int .u8 63))⟩,
        ⟨(some 89), none, .convI .i32 (.tmp 88)⟩,
        ⟨(some 90), none, .bin .or (.tmp 86) (.tmp 89)⟩,
        ⟨(some 2), none, .mov (.tmp 90)⟩,
        ⟨(some 3), none, .mov (.const (.int .i64 3))⟩] [2, 3])
    (.ret))
    (.skip)))
  (.seq (.ops [⟨(some 91), none, .mov (.tmp 0)⟩,
      ⟨(some 92), none, .idxStr (.tmp 91) (.const (.int .i64 3))⟩,
      ⟨(some 12), none, .mov (.tmp 92)⟩] [5, 10, 11, 12])
  (.seq (.seq (.ops [⟨(some 93), none, .mov (.tmp 12)⟩,
      ⟨(some 94), none, .bin .lss (.tmp 93) (.const (.int .u8 128))⟩,
      ⟨(some 95), none, .mov (.tmp 94)⟩,
      ⟨(some 96), (some (95, false)), .mov (.tmp 12)⟩,
      ⟨(some 97), (some (95, false)), .bin .lss (.const (.int .u8 191)) (.tmp 96)⟩,
      ⟨(some 98), none, .pick (.tmp 95) (.const (.bool true)) (.tmp 97)⟩] [5, 10, 11, 12, 98])
  (.cond (.tmp 98)
    (.seq (.ops [⟨(some 2), none, .mov (.const (.int .i32 65533))⟩,
        ⟨(some 3), none, .mov (.const (.int .i64 1))⟩] [2, 3])
    (.ret))
    (.skip)))
  (.seq (.ops [⟨(some 99), none, .mov (.tmp 5)⟩,
      ⟨(some 100), none, .bin .and (.tmp 99) (.const (.int .u8 7))⟩,
      ⟨(some 101), none, .convI .i32 (.tmp 100)⟩,
      ⟨(some 102), none, .bin .shl (.tmp 101) (.const (.int .u64 18))⟩,
      ⟨(some 103), none, .mov (.tmp 10)⟩,
      ⟨(some 104), none, .bin .and (.tmp 103) (.const (.int .u8 63))⟩,
      ⟨(some 105), none, .convI .i32 (.tmp 104)⟩,
      ⟨(some 106), none, .bin .shl (.tmp 105) (.const (.int .u64 12))⟩,
      ⟨(some 107), none, .bin .or (.tmp 102) (.tmp 106)⟩,
      ⟨(some 108), none, .mov (.tmp 11)⟩,
      ⟨(some 109), none, .bin .and (.tmp 108) (.const (.int .u8 63))⟩,
      ⟨(some 110), none, .convI .i32 (.tmp 109)⟩,
      ⟨(some 111), none, .bin .shl (.tmp 110) (.const (.int .u64 6))⟩,
      ⟨(some 112), none, .bin .or (.tmp 107) (.tmp 111)⟩,
      ⟨(some 113), none, .mov (.tmp 12)⟩,
      ⟨(some 114), none, .bin .and (.tmp 113) (.const (.int .u8 63))⟩,
      ⟨(some 115), none, .convI .i32 (.tmp 114)⟩,
      ⟨(some 116), none, .bin .or (.tmp 112) (.tmp 115)⟩,
      ⟨(some 2), none, .mov (.tmp 116)⟩,
      ⟨(some 3), none, .mov (.const (.int .i64 4))⟩] [2, 3])
  (.ret)))))))))))))))))),
  117, [(2, none), (3, none)], true⟩
theorem ok90 : FunOK Tryd.prog 90 c90 := ⟨⟨Tryd.f90, _, c90.code, Tryd.func90, rfl, by kernel_rfl, rfl, by kernel_rfl, by kernel_rfl⟩⟩
/- internal/strconv.log10Pow2 -/
def c94 : AFun := ⟨
  .seq (.ops [⟨(some 2), none, .mov (.const (.int .i64 0))⟩] [0])
  (.seq (.ops [⟨(some 3), none, .mov (.tmp 0)⟩,
      ⟨(some 4), none, .bin .mul (.tmp 3) (.const (.int .i64 78913))⟩,
      ⟨(some 5), none, .bin .shr (.tmp 4) (.const (.int .u64 18))⟩,
      ⟨(some 2), none, .mov (.tmp 5)⟩] [2])
  (.ret)),
  6, [(2, none)], true⟩
theorem ok94 : FunOK Tryd.prog 94 c94 := ⟨⟨Tryd.f94, _, c94.code, Tryd.func94, rfl, by kernel_rfl, rfl, by kernel_rfl, by kernel_rfl⟩⟩
/- math/bits.Len64 -/
def c95 : AFun := ⟨
  .seq (.ops [⟨(some 2), none, .mov (.const (.int .i64 0))⟩] [0, 2])
  (.seq (.seq (.ops [⟨(some 3), none, .mov (.tmp 0)⟩,
      ⟨(some 4), none, .bin .geq (.tmp 3) (.const (.int .u64 4294967296))⟩] [0, 2, 4])
  (.cond (.tmp 4)
    (.seq (.ops [⟨(some 5), none, .mov (.tmp 0)⟩,
        ⟨(some 6), none, .bin .shr (.tmp 5) (.const (.int .u64 32))⟩,
        ⟨(some 0), none, .mov (.tmp 6)⟩] [0])
    (.ops [⟨(some 2), none, .mov (.const (.int .i64 32))⟩] [0, 2]))
    (.skip)))
  (.seq (.seq (.ops [⟨(some 7), none, .mov (.tmp 0)⟩,
      ⟨(some 8), none, .bin .geq (.tmp 7) (.const (.int .u64 65536))⟩] [0, 2, 8])
  (.cond (.tmp 8)
    (.seq (.ops [⟨(some 9), none, .mov (.tmp 0)⟩,
        ⟨(some 10), none, .bin .shr (.tmp 9) (.const (.int .u64 16))⟩,
        ⟨(some 0), none, .mov (.tmp 10)⟩] [0, 2])
    (.ops [⟨(some 11), none, .mov (.tmp 2)⟩,
        ⟨(some 12), none, .bin .add (.tmp 11) (.const (.int .i64 16))⟩,
        ⟨(some 2), none, .mov (.tmp 12)⟩] [0, 2]))
    (.skip)))
  (.seq (.seq (.ops [⟨(some 13), none, .mov (.tmp 0)⟩,
      ⟨(some 14), none, .bin .geq (.tmp 13) (.const (.int .u64 256))⟩] [0, 2, 14])
  (.cond (.tmp 14)
    (.seq (.ops [⟨(some 15), none, .mov (.tmp 0)⟩,
        ⟨(some 16), none, .bin .shr (.tmp 15) (.const (.int .u64 8))⟩,
        ⟨(some 0), none, .mov (.tmp 16)⟩] [0, 2])
    (.ops [⟨(some 17), none, .mov (.tmp 2)⟩,
        ⟨(some 18), none, .bin .add (.tmp 17) (.const (.int .i64 8))⟩,
        ⟨(some 2), none, .mov (.tmp 18)⟩] [0, 2]))
    (.skip)))
  (.seq (.ops [⟨(some 19), none, .mov (.tmp 2)⟩,
      ⟨(some 20), none, .mov (.tmp 0)⟩,
      ⟨(some 21), none, .convI .u8 (.tmp 20)⟩,
      ⟨(some 22), none, .idxStr (.const (.string ⟨#[0, 1, 2, 2, 3, 3, 3, 3, 4, 4, 4, 4, 4, 4, 4, 4, 5, 5, 5, 5, 5, 5, 5, 5, 5, 5, 5, 5, 5, 5, 5, 5, 6, 6, 6, 6, 6, 6, 6, 6, 6, 6, 6, 6, 6, 6, 6, 6, 6, 6, 6, 6, 6, 6, 6, 6, 6, 6, 6, 6, 6, 6, 6, 6, 7, 7, 7, 7, 7, 7, 7, 7, 7, 7, 7, 7, 7, 7, 7, 7, 7, 7, 7, 7, 7, 7, 7, 7, 7, 7, 7, 7, 7, 7, 7, 7, 7, 7, 7, 7, 7, 7, 7, 7, 7, 7, 7, 7, 7, 7, 7, 7, 7, 7, 7, 7, 7, 7, 7, 7, 7, 7, 7, 7, 7, 7, 7, 7, 8, 8, 8, 8, 8, 8, 8, 8, 8, 8, 8, 8, 8, 8, 8, 8, 8, 8, 8, 8, 8, 8, 8, 8, 8, 8, 8, 8, 8, 8, 8, 8, 8, 8, 8, 8, 8, 8, 8, 8, 8, 8, 8, 8, 8, 8, 8, 8, 8, 8, 8, 8, 8, 8, 8, 8, 8, 8, 8, 8, 8, 8, 8, 8, 8, 8, 8, 8, 8, 8, 8, 8, 8, 8, 8, 8, 8, 8, 8, 8, 8, 8, 8, 8, 8, 8, 8, 8, 8, 8, 8, 8, 8, 8, 8, 8, 8, 8, 8, 8, 8, 8, 8, 8, 8, 8, 8, 8, 8, 8, 8, 8, 8, 8, 8, 8, 8, 8, 8, 8, 8, 8, 8, 8, 8, 8, 8, 8]⟩)) (.tmp 21)⟩,
      ⟨(some 23), none, .convI .i64 (.tmp 22)⟩,
      ⟨(some 24), none, .bin .add (.tmp 19) (.tmp 23)⟩,
      ⟨(some 2), none, .mov (.tmp 24)⟩] [2])
  (.ret))))),
  25, [(2, none)], true⟩
theorem ok95 : FunOK Tryd.prog 95 c95 := ⟨⟨Tryd.f95, _, c95.code, Tryd.func95, rfl, by kernel_rfl, rfl, by kernel_rfl, by kernel_rfl⟩⟩
def fns : FuncId → Option AFun
  | 3 => some c3
  | 4 => some c4
  | 5 => some c5
  | 7 => some c7
  | 9 => some c9
  | 10 => some c10
  | 11 => some c11
  | 12 => some c12
  | 13 => some c13
  | 14 => some c14
  | 15 => some c15
  | 16 => some c16
  | 17 => some c17
  | 18 => some c18
  | 19 => some c19
  | 20 => some c20
  | 21 => some c21
  | 22 => some c22
  | 23 => some c23
  | 24 => some c24
  | 25 => some c25
  | 27 => some c27
  | 29 => some c29
  | 30 => some c30
  | 32 => some c32
  | 33 => some c33
  | 34 => some c34
  | 35 => some c35
  | 36 => some c36
  | 37 => some c37
  | 38 => some c38
  | 39 => some c39
  | 40 => some c40
  | 41 => some c41
  | 42 => some c42
  | 43 => some c43
  | 44 => some c44
  | 45 => some c45
  | 46 => some c46
  | 47 => some c47
  | 48 => some c48
  | 49 => some c49
  | 52 => some c52
  | 53 => some c53
  | 54 => some c54
  | 55 => some c55
  | 56 => some c56
  | 57 => some c57
  | 58 => some c58
  | 59 => some c59
  | 60 => some c60
  | 61 => some c61
  | 65 => some c65
  | 66 => some c66
  | 67 => some c67
  | 69 => some c69
  | 70 => some c70
  | 71 => some c71
  | 72 => some c72
  | 73 => some c73
  | 74 => some c74
  | 75 => some c75
  | 81 => some c81
  | 82 => some c82
  | 83 => some c83
  | 84 => some c84
  | 85 => some c85
  | 87 => some c87
  | 89 => some c89
  | 90 => some c90
  | 94 => some c94
  | 95 => some c95
  | _ => none
theorem fns_ok : FunsOK Tryd.prog fns := by
  intro f af h
  unfold fns at h
  split at h
  · cases h; exact ok3
  · cases h; exact ok4
  · cases h; exact ok5
  · cases h; exact ok7
  · cases h; exact ok9
  · cases h; exact ok10
  · cases h; exact ok11
  · cases h; exact ok12
  · cases h; exact ok13
  · cases h; exact ok14
  · cases h; exact ok15
  · cases h; exact ok16
  · cases h; exact ok17
  · cases h; exact ok18
  · cases h; exact ok19
  · cases h; exact ok20
  · cases h; exact ok21
  · cases h; exact ok22
  · cases h; exact ok23
  · cases h; exact ok24
  · cases h; exact ok25
  · cases h; exact ok27
  · cases h; exact ok29
  · cases h; exact ok30
  · cases h; exact ok32
  · cases h; exact ok33
  · cases h; exact ok34
  · cases h; exact ok35
  · cases h; exact ok36
  · cases h; exact ok37
  · cases h; exact ok38
  · cases h; exact ok39
  · cases h; exact ok40
  · cases h; exact ok41
  · cases h; exact ok42
  · cases h; exact ok43
  · cases h; exact ok44
  · cases h; exact ok45
  · cases h; exact ok46
  · cases h; exact ok47
  · cases h; exact ok48
  · cases h; exact ok49
  · cases h; exact ok52
  · cases h; exact ok53
  · cases h; exact ok54
  · cases h; exact ok55
  · cases h; exact ok56
  · cases h; exact ok57
  · cases h; exact ok58
  · cases h; exact ok59
  · cases h; exact ok60
  · cases h; exact ok61
  · cases h; exact ok65
  · cases h; exact ok66
  · cases h; exact ok67
  · cases h; exact ok69
  · cases h; exact ok70
  · cases h; exact ok71
  · cases h; exact ok72
  · cases h; exact ok73
  · cases h; exact ok74
  · cases h; exact ok75
  · cases h; exact ok81
  · cases h; exact ok82
  · cases h; exact ok83
  · cases h; exact ok84
  · cases h; exact ok85
  · cases h; exact ok87
  · cases h; exact ok89
  · cases h; exact ok90
  · cases h; exact ok94
  · cases h; exact ok95
  · cases h
end Go.Proofs.YtepdkmdcainddaaDoor
namespace Go.Proofs.YtepdkmdcainddaaDoor
open Go Go.Itp
set_option maxRecDepth 100000
def prims0 : List (FuncId × Prim × TypeId) := [(68, .same, 0), (86, .makeNoZero, 5)]
theorem prims_all : AllPrims Tryd.prog prims0 :=
  ⟨⟨⟨Tryd.f68, Tryd.func68, by kernel_rfl, by kernel_rfl, by kernel_rfl, rfl⟩⟩,
   ⟨⟨Tryd.f86, Tryd.func86, by kernel_rfl, by kernel_rfl, #[3], 67, by kernel_rfl, rfl, Tryd.underlying67⟩⟩, trivial⟩
/-! ### the chapter's examples hold -/
#eval (match body (callP (fun _ _ => none) many fns (primsOf prims0) 40) c19 [] St.empty with | some (.bool b, _) => some b | _ => none)
theorem run_alive : runsTo true (body (callP (fun _ _ => none) many fns (primsOf prims0) 40) c19 [] St.empty) = true := by kernel_rfl
end Go.Proofs.YtepdkmdcainddaaDoor
namespace Go.Proofs.YtepdkmdcainddaaDoor
open Go Go.Itp
open Go.ChangeShapes Go.WideShapes Go.ChangeAt Go.RowKit
set_option linter.unusedVariables false
set_option maxRecDepth 100000
theorem own : ownKnob Tryd.prog.godebug = none := by kernel_rfl
theorem mixed : Tryd.prog.follows .mixedOrders = true := by kernel_rfl
/-! ### the chapter's examples hold -/
def known : List (FuncId × List Value × Bool) := [(19, [], true)]
theorem has_alive : ∃ fn c, Tryd.prog.funcs[(19 : Nat)]? = some fn ∧ fn.body = some c ∧ (fn.name == "runtime.NumGoroutine") = false := ⟨Tryd.f19, _, Tryd.func19, rfl, by kernel_rfl⟩
def noOld : Nat → Nat → Option Value := fun _ _ => none
theorem old_none (W : World) : OldIs noOld W := fun b o v e => by cases e
theorem known_ok : Answers Tryd.prog noOld known :=
  ⟨answer_of mixed fns_ok (fun w _ => primsOf_ok prims0 prims_all w) (f := 19) (af := c19) rfl rfl run_alive, has_alive, trivial⟩
abbrev EN (w : World) (n : Nat) : Env := callP (oldOf w) many fns (orElseP (primT known) (primsOf prims0)) n
abbrev vI : Int → Value := .int .i64
/-- what a law's run returns, its call returns -/
theorem law_of {W : World} {f : FuncId} {af : AFun} (hf : fns f = some af) {xs : List Value} (hxs : idsL 0 xs = []) (n : Nat) {v : Value} {s' : St} (hb : body (EN W n) af xs St.empty = some (v, s')) (hv : ids 0 v = []) :
    Calls Tryd.prog f xs.toArray W fun e w' => e = .returned v ∧ Below W.heap.size W w' :=
  law_at mixed fns_ok (oldOf_ok W) (orElse_ok (primT_ok (old_none W) known known_ok) (primsOf_ok prims0 prims_all W)) hf hxs n hb hv
theorem imp (n : Nat) (f : FuncId) (xs : List Value) (s : St) (w : World) (h : (match fns f with | some af => af.pure | none => true) = false) : (EN w (n + 1)).pcall f xs s = none := by
  cases hf : fns f with
  | none => rw [hf] at h; cases h
  | some af =>
    have hk : ∀ g, (match fns g with | some af => af.pure | none => true) = true → Nat.beq f g = false := fun g hg => by
      cases e : Nat.beq f g with
      | false => rfl
      | true => rw [Nat.eq_of_beq_eq_true e] at h; rw [hg] at h; cases h
    rw [hf] at h
    refine pcall_imp hf h ?_
    have h1 := hk 19 rfl
    have h2 := hk 68 rfl
    have h3 := hk 86 rfl
    simp only [orElseP, primT, known, prims0, primsOf, h1, h2, h3, Bool.false_and]
    rfl
end Go.Proofs.YtepdkmdcainddaaDoor
namespace Go.Proofs.YtepdkmdcainddaaDoor
open Go Go.Itp
set_option linter.unusedSimpArgs false
set_option linter.unusedVariables false
set_option maxRecDepth 100000
set_option maxHeartbeats 1000000
attribute [local irreducible] Does
theorem idsL_ints (n0 : Nat) (l : List Int) : idsL n0 (l.map vI) = [] := idsL_map (fun _ => rfl) l
theorem idsL_bools (n0 : Nat) (l : List Bool) : idsL n0 (l.map Value.bool) = [] := idsL_map (fun _ => rfl) l

/-! ### a chain -/
/-- a slice that reads as a chain's cards -/
structure CB (w : World) (h : Heap) (nx : Nat) (vC : Value) (rs : List Value) (V : List (List Bool)) : Prop where
  v : Rd (oldOf w) h (fun x : Value => x) vC rs
  len : rs.length = V.length
  r : ∀ k, k < V.length → Rd (oldOf w) h Value.bool rs[k]! V[k]!
  bv : bidN vC ≤ nx
  br : ∀ k, k < V.length → bidN rs[k]! ≤ nx
  lv : V.length ≤ 1000000
  lr : ∀ k, k < V.length → V[k]!.length ≤ 1000000
theorem CB.hx {w : World} {h h' : Heap} {nx nx' : Nat} {vC : Value} {rs : List Value} {V : List (List Bool)} (t : CB w h nx vC rs V) (hx : HX nx h h') (hn : nx ≤ nx') : CB w h' nx' vC rs V :=
  ⟨t.v.hx hx t.bv, t.len, fun k hk => (t.r k hk).hx hx (t.br k hk), Nat.le_trans t.bv hn, fun k hk => Nat.le_trans (t.br k hk) hn, t.lv, t.lr⟩
theorem CB.push {w : World} {h : Heap} {nx nx' : Nat} {vC : Value} {rs : List Value} {V : List (List Bool)} (t : CB w h nx vC rs V) (bs : List Blk) (hn : nx ≤ nx') : CB w (hpush h nx bs) nx' vC rs V :=
  t.hx ((HX.refl _ _).push _ (Nat.le_refl _)) hn
section
variable (w : World) (n : Nat) {vC : Value} {rs : List Value} {V : List (List Bool)} {h : Heap} {nx p : Nat}
def validS (q : Int) (V : List (List Bool)) : Bool := decide (1 ≤ q ∧ q ≤ 40 ∧ 2 ≤ V.length ∧ V.length ≤ 65 ∧ ∀ k, k < V.length → (V[k]!.length : Int) = q + 1)
theorem chain_p (t : CB w h nx vC rs V) (q : Int) (hq : -9223372036854775808 ≤ q ∧ q ≤ 9223372036854775807) :
    (EN w (n + 1)).pcall 21 [.agg [.int .i64 q, vC].toArray] ⟨h, nx, p⟩ = some (.int .i64 (if validS q V then 0 else 8), []) := by
  refine pcall_eq rfl rfl (Nat.le_of_ble_eq_true rfl) ?_
  have t' := t.push [⟨[.int .i64 q, vC], 1, false, 34⟩] (nx' := nx + 1) (by omega)
  have hlen := t.len
  have hlv := t.lv
  by_cases h1 : q < 1
  · repeat' (first | (simp (disch := first | omega | assumption |  exact callP_old _ _ _ _ _ | exact one_int _ _ | exact one_bool _ | exact one_string _ | exact one_slice _ _ _ | exact one_pointer _ | exact hget_push_one _ _ _ _ (by omega) | (simp only [List.length_map, List.length_set, List.length_replicate, List.length_cons, List.length_nil]; omega) | (rw [hget_push_lt _ _ _ _ (by omega)]; first | assumption | exact hget_push_one _ _ _ _ (by omega))) only [WW0, WW1, WW2, WW3, WW4, WW5, WW6, WW7, Option.map_some, args0, slotsL, opdsA, List.cons_append, List.nil_append, List.map_cons, List.map_nil, List.append_nil, Option.toList_some, Option.toList_none, Nat.reduceEqDiff, Nat.reduceLT, Nat.reduceAdd, Nat.reduceBEq, Int.reduceAdd, Int.reduceSub, Int.reduceLT, Int.reduceLE, Int.reduceEq, Int.reduceNeg, ↓reduceIte, if_true, if_false, Bool.false_eq_true, Bool.not_true, Bool.not_false, List.length_cons, List.length_nil, List.length_singleton, reduceCtorEq, Int.toNat_natCast, Nat.zero_add, Nat.add_zero, Int.add_sub_cancel, eq_self, List.drop_zero, List.drop_succ_cons, Option.some.injEq, Prod.mk.injEq, mkFnA, Bool.and_true, Bool.true_and, Bool.and_self]) | (refine does_goI_dec (fun _ => ?_) (fun _ => ?_)) | (refine does_goG_dec (fun _ => ?_) (fun _ => ?_)) | (refine does_goI (fun _ => ?_) (fun _ => ?_)) | (refine does_goG (fun _ => ?_) (fun _ => ?_)))
    rw [if_neg (by simp [validS]; omega)]
  by_cases h2 : 40 < q
  · repeat' (first | (simp (disch := first | omega | assumption |  exact callP_old _ _ _ _ _ | exact one_int _ _ | exact one_bool _ | exact one_string _ | exact one_slice _ _ _ | exact one_pointer _ | exact hget_push_one _ _ _ _ (by omega) | (simp only [List.length_map, List.length_set, List.length_replicate, List.length_cons, List.length_nil]; omega) | (rw [hget_push_lt _ _ _ _ (by omega)]; first | assumption | exact hget_push_one _ _ _ _ (by omega))) only [WW0, WW1, WW2, WW3, WW4, WW5, WW6, WW7, Option.map_some, args0, slotsL, opdsA, List.cons_append, List.nil_append, List.map_cons, List.map_nil, List.append_nil, Option.toList_some, Option.toList_none, Nat.reduceEqDiff, Nat.reduceLT, Nat.reduceAdd, Nat.reduceBEq, Int.reduceAdd, Int.reduceSub, Int.reduceLT, Int.reduceLE, Int.reduceEq, Int.reduceNeg, ↓reduceIte, if_true, if_false, Bool.false_eq_true, Bool.not_true, Bool.not_false, List.length_cons, List.length_nil, List.length_singleton, reduceCtorEq, Int.toNat_natCast, Nat.zero_add, Nat.add_zero, Int.add_sub_cancel, eq_self, List.drop_zero, List.drop_succ_cons, Option.some.injEq, Prod.mk.injEq, mkFnA, Bool.and_true, Bool.true_and, Bool.and_self]) | (refine does_goI_dec (fun _ => ?_) (fun _ => ?_)) | (refine does_goG_dec (fun _ => ?_) (fun _ => ?_)) | (refine does_goI (fun _ => ?_) (fun _ => ?_)) | (refine does_goG (fun _ => ?_) (fun _ => ?_)))
    rw [if_neg (by simp [validS]; omega)]
  by_cases h3 : (rs.length : Int) < 2
  · repeat' (first | (simp (disch := first | omega | assumption |  exact callP_old _ _ _ _ _ | exact one_int _ _ | exact one_bool _ | exact one_string _ | exact one_slice _ _ _ | exact one_pointer _ | exact hget_push_one _ _ _ _ (by omega) | (simp only [List.length_map, List.length_set, List.length_replicate, List.length_cons, List.length_nil]; omega) | (rw [hget_push_lt _ _ _ _ (by omega)]; first | assumption | exact hget_push_one _ _ _ _ (by omega))) only [WW0, WW1, WW2, WW3, WW4, WW5, WW6, WW7, Option.map_some, args0, slotsL, opdsA, List.cons_append, List.nil_append, List.map_cons, List.map_nil, List.append_nil, Option.toList_some, Option.toList_none, Nat.reduceEqDiff, Nat.reduceLT, Nat.reduceAdd, Nat.reduceBEq, Int.reduceAdd, Int.reduceSub, Int.reduceLT, Int.reduceLE, Int.reduceEq, Int.reduceNeg, ↓reduceIte, if_true, if_false, Bool.false_eq_true, Bool.not_true, Bool.not_false, List.length_cons, List.length_nil, List.length_singleton, reduceCtorEq, Int.toNat_natCast, Nat.zero_add, Nat.add_zero, Int.add_sub_cancel, eq_self, List.drop_zero, List.drop_succ_cons, Option.some.injEq, Prod.mk.injEq, mkFnA, Bool.and_true, Bool.true_and, Bool.and_self, t'.v.len]) | (refine does_goI_dec (fun _ => ?_) (fun _ => ?_)) | (refine does_goG_dec (fun _ => ?_) (fun _ => ?_)) | (refine does_goI (fun _ => ?_) (fun _ => ?_)) | (refine does_goG (fun _ => ?_) (fun _ => ?_)))
    rw [if_neg (by simp [validS]; omega)]
  by_cases h4 : (65 : Int) < rs.length
  · repeat' (first | (simp (disch := first | omega | assumption |  exact callP_old _ _ _ _ _ | exact one_int _ _ | exact one_bool _ | exact one_string _ | exact one_slice _ _ _ | exact one_pointer _ | exact hget_push_one _ _ _ _ (by omega) | (simp only [List.length_map, List.length_set, List.length_replicate, List.length_cons, List.length_nil]; omega) | (rw [hget_push_lt _ _ _ _ (by omega)]; first | assumption | exact hget_push_one _ _ _ _ (by omega))) only [WW0, WW1, WW2, WW3, WW4, WW5, WW6, WW7, Option.map_some, args0, slotsL, opdsA, List.cons_append, List.nil_append, List.map_cons, List.map_nil, List.append_nil, Option.toList_some, Option.toList_none, Nat.reduceEqDiff, Nat.reduceLT, Nat.reduceAdd, Nat.reduceBEq, Int.reduceAdd, Int.reduceSub, Int.reduceLT, Int.reduceLE, Int.reduceEq, Int.reduceNeg, ↓reduceIte, if_true, if_false, Bool.false_eq_true, Bool.not_true, Bool.not_false, List.length_cons, List.length_nil, List.length_singleton, reduceCtorEq, Int.toNat_natCast, Nat.zero_add, Nat.add_zero, Int.add_sub_cancel, eq_self, List.drop_zero, List.drop_succ_cons, Option.some.injEq, Prod.mk.injEq, mkFnA, Bool.and_true, Bool.true_and, Bool.and_self, t'.v.len]) | (refine does_goI_dec (fun _ => ?_) (fun _ => ?_)) | (refine does_goG_dec (fun _ => ?_) (fun _ => ?_)) | (refine does_goI (fun _ => ?_) (fun _ => ?_)) | (refine does_goG (fun _ => ?_) (fun _ => ?_)))
    rw [if_neg (by simp [validS]; omega)]
  repeat' (first | (simp (disch := first | omega | assumption |  exact callP_old _ _ _ _ _ | exact one_int _ _ | exact one_bool _ | exact one_string _ | exact one_slice _ _ _ | exact one_pointer _ | exact hget_push_one _ _ _ _ (by omega) | (simp only [List.length_map, List.length_set, List.length_replicate, List.length_cons, List.length_nil]; omega) | (rw [hget_push_lt _ _ _ _ (by omega)]; first | assumption | exact hget_push_one _ _ _ _ (by omega))) only [WW0, WW1, WW2, WW3, WW4, WW5, WW6, WW7, Option.map_some, args0, slotsL, opdsA, List.cons_append, List.nil_append, List.map_cons, List.map_nil, List.append_nil, Option.toList_some, Option.toList_none, Nat.reduceEqDiff, Nat.reduceLT, Nat.reduceAdd, Nat.reduceBEq, Int.reduceAdd, Int.reduceSub, Int.reduceLT, Int.reduceLE, Int.reduceEq, Int.reduceNeg, ↓reduceIte, if_true, if_false, Bool.false_eq_true, Bool.not_true, Bool.not_false, List.length_cons, List.length_nil, List.length_singleton, reduceCtorEq, Int.toNat_natCast, Nat.zero_add, Nat.add_zero, Int.add_sub_cancel, eq_self, List.drop_zero, List.drop_succ_cons, Option.some.injEq, Prod.mk.injEq, mkFnA, Bool.and_true, Bool.true_and, Bool.and_self, t'.v.len]) | (refine does_goI_dec (fun _ => ?_) (fun _ => ?_)) | (refine does_goG_dec (fun _ => ?_) (fun _ => ?_)) | (refine does_goI (fun _ => ?_) (fun _ => ?_)) | (refine does_goG (fun _ => ?_) (fun _ => ?_)))
  refine does_while (fun m fr t => ∃ k : Nat, m = V.length - k ∧ k ≤ V.length ∧ fr = [(1, .pointer (some ⟨nx, 0, some 0⟩)), (3, .int .i64 k)] ∧ t = ⟨hpush h nx [⟨[.int .i64 q, vC], 1, false, 34⟩], nx + 1, nx⟩ ∧ ∀ j, j < k → (V[j]!.length : Int) = q + 1) (m := V.length) ?_ ?_ ?_
  · exact ⟨0, by omega, by omega, rfl, rfl, by omega⟩
  · simp (disch := first | omega | assumption |  exact callP_old _ _ _ _ _ | exact one_int _ _ | exact one_bool _ | exact one_string _ | exact one_slice _ _ _ | exact one_pointer _ | exact hget_push_one _ _ _ _ (by omega) | (simp only [List.length_map, List.length_set, List.length_replicate, List.length_cons, List.length_nil]; omega) | (rw [hget_push_lt _ _ _ _ (by omega)]; first | assumption | exact hget_push_one _ _ _ _ (by omega))) only [WW0, WW1, WW2, WW3, WW4, WW5, WW6, WW7, Option.map_some, args0, slotsL, opdsA, List.cons_append, List.nil_append, List.map_cons, List.map_nil, List.append_nil, Option.toList_some, Option.toList_none, Nat.reduceEqDiff, Nat.reduceLT, Nat.reduceAdd, Nat.reduceBEq, Int.reduceAdd, Int.reduceSub, Int.reduceLT, Int.reduceLE, Int.reduceEq, Int.reduceNeg, ↓reduceIte, if_true, if_false, Bool.false_eq_true, Bool.not_true, Bool.not_false, List.length_cons, List.length_nil, List.length_singleton, reduceCtorEq, Int.toNat_natCast, Nat.zero_add, Nat.add_zero, Int.add_sub_cancel, eq_self, List.drop_zero, List.drop_succ_cons, Option.some.injEq, Prod.mk.injEq, mkFnA, Bool.and_true, Bool.true_and, Bool.and_self]
    unfold many; omega
  · rintro m fr tt ⟨k, rfl, hk, rfl, rfl, hj⟩
    by_cases hlt : k < V.length
    · have hr := t'.r k hlt
      have hlr := t.lr k hlt
      by_cases hw : (V[k]!.length : Int) = q + 1
      · repeat' (first | (simp (disch := first | omega | assumption |  exact callP_old _ _ _ _ _ | exact one_int _ _ | exact one_bool _ | exact one_string _ | exact one_slice _ _ _ | exact one_pointer _ | exact hget_push_one _ _ _ _ (by omega) | (simp only [List.length_map, List.length_set, List.length_replicate, List.length_cons, List.length_nil]; omega) | (rw [hget_push_lt _ _ _ _ (by omega)]; first | assumption | exact hget_push_one _ _ _ _ (by omega))) only [WW0, WW1, WW2, WW3, WW4, WW5, WW6, WW7, Option.map_some, args0, slotsL, opdsA, List.cons_append, List.nil_append, List.map_cons, List.map_nil, List.append_nil, Option.toList_some, Option.toList_none, Nat.reduceEqDiff, Nat.reduceLT, Nat.reduceAdd, Nat.reduceBEq, Int.reduceAdd, Int.reduceSub, Int.reduceLT, Int.reduceLE, Int.reduceEq, Int.reduceNeg, ↓reduceIte, if_true, if_false, Bool.false_eq_true, Bool.not_true, Bool.not_false, List.length_cons, List.length_nil, List.length_singleton, reduceCtorEq, Int.toNat_natCast, Nat.zero_add, Nat.add_zero, Int.add_sub_cancel, eq_self, List.drop_zero, List.drop_succ_cons, Option.some.injEq, Prod.mk.injEq, mkFnA, Bool.and_true, Bool.true_and, Bool.and_self, c21l0, t'.v.len, t'.v.idx, t'.v.load, hr.len]) | (refine does_goI_dec (fun _ => ?_) (fun _ => ?_)) | (refine does_goG_dec (fun _ => ?_) (fun _ => ?_)) | (refine does_goI (fun _ => ?_) (fun _ => ?_)) | (refine does_goG (fun _ => ?_) (fun _ => ?_)))
        refine ⟨_, ?_, k + 1, rfl, hlt, by simp, lt_succ_cases hj hw⟩
        omega
      · repeat' (first | (simp (disch := first | omega | assumption |  exact callP_old _ _ _ _ _ | exact one_int _ _ | exact one_bool _ | exact one_string _ | exact one_slice _ _ _ | exact one_pointer _ | exact hget_push_one _ _ _ _ (by omega) | (simp only [List.length_map, List.length_set, List.length_replicate, List.length_cons, List.length_nil]; omega) | (rw [hget_push_lt _ _ _ _ (by omega)]; first | assumption | exact hget_push_one _ _ _ _ (by omega))) only [WW0, WW1, WW2, WW3, WW4, WW5, WW6, WW7, Option.map_some, args0, slotsL, opdsA, List.cons_append, List.nil_append, List.map_cons, List.map_nil, List.append_nil, Option.toList_some, Option.toList_none, Nat.reduceEqDiff, Nat.reduceLT, Nat.reduceAdd, Nat.reduceBEq, Int.reduceAdd, Int.reduceSub, Int.reduceLT, Int.reduceLE, Int.reduceEq, Int.reduceNeg, ↓reduceIte, if_true, if_false, Bool.false_eq_true, Bool.not_true, Bool.not_false, List.length_cons, List.length_nil, List.length_singleton, reduceCtorEq, Int.toNat_natCast, Nat.zero_add, Nat.add_zero, Int.add_sub_cancel, eq_self, List.drop_zero, List.drop_succ_cons, Option.some.injEq, Prod.mk.injEq, mkFnA, Bool.and_true, Bool.true_and, Bool.and_self, c21l0, t'.v.len, t'.v.idx, t'.v.load, hr.len]) | (refine does_goI_dec (fun _ => ?_) (fun _ => ?_)) | (refine does_goG_dec (fun _ => ?_) (fun _ => ?_)) | (refine does_goI (fun _ => ?_) (fun _ => ?_)) | (refine does_goG (fun _ => ?_) (fun _ => ?_)))
        rw [if_neg (by simp only [validS, decide_eq_true_eq]; rintro ⟨_, _, _, _, hh⟩; exact hw (hh k hlt))]
    · have : k = V.length := by omega
      subst this
      repeat' (first | (simp (disch := first | omega | assumption |  exact callP_old _ _ _ _ _ | exact one_int _ _ | exact one_bool _ | exact one_string _ | exact one_slice _ _ _ | exact one_pointer _ | exact hget_push_one _ _ _ _ (by omega) | (simp only [List.length_map, List.length_set, List.length_replicate, List.length_cons, List.length_nil]; omega) | (rw [hget_push_lt _ _ _ _ (by omega)]; first | assumption | exact hget_push_one _ _ _ _ (by omega))) only [WW0, WW1, WW2, WW3, WW4, WW5, WW6, WW7, Option.map_some, args0, slotsL, opdsA, List.cons_append, List.nil_append, List.map_cons, List.map_nil, List.append_nil, Option.toList_some, Option.toList_none, Nat.reduceEqDiff, Nat.reduceLT, Nat.reduceAdd, Nat.reduceBEq, Int.reduceAdd, Int.reduceSub, Int.reduceLT, Int.reduceLE, Int.reduceEq, Int.reduceNeg, ↓reduceIte, if_true, if_false, Bool.false_eq_true, Bool.not_true, Bool.not_false, List.length_cons, List.length_nil, List.length_singleton, reduceCtorEq, Int.toNat_natCast, Nat.zero_add, Nat.add_zero, Int.add_sub_cancel, eq_self, List.drop_zero, List.drop_succ_cons, Option.some.injEq, Prod.mk.injEq, mkFnA, Bool.and_true, Bool.true_and, Bool.and_self, c21l0, t'.v.len]) | (refine does_goI_dec (fun _ => ?_) (fun _ => ?_)) | (refine does_goG_dec (fun _ => ?_) (fun _ => ?_)) | (refine does_goI (fun _ => ?_) (fun _ => ?_)) | (refine does_goG (fun _ => ?_) (fun _ => ?_)))
      have hv : validS q V = true := decide_yes ⟨by omega, by omega, by omega, by omega, hj⟩
      rw [if_pos hv]
/-! ### odd numbers of pegs -/
def oddTo (p : Nat → Bool) : Nat → Bool
  | 0 => false
  | k + 1 => !(oddTo p k == p k)
def pegsTo (l : List Bool) : Nat → Nat
  | 0 => 0
  | k + 1 => if l[k]! then pegsTo l k + 1 else pegsTo l k
theorem pegsTo_le (l : List Bool) : ∀ k, pegsTo l k ≤ k
  | 0 => Nat.le_refl _
  | k + 1 => by
    have := pegsTo_le l k
    simp only [pegsTo]; split <;> omega
theorem pegs_odd (l : List Bool) : ∀ k, (decide ((pegsTo l k : Int) % 2 = 1)) = oddTo (fun i => l[i]!) k
  | 0 => rfl
  | k + 1 => by
    have := pegs_odd l k
    rw [pegsTo, oddTo, ← this]
    clear this
    generalize l[k]! = b
    cases b
    · by_cases h : (pegsTo l k : Int) % 2 = 1
      · simp [h]
      · simp [h]
    · by_cases h : (pegsTo l k : Int) % 2 = 1
      · have : ¬ ((pegsTo l k + 1 : Nat) : Int) % 2 = 1 := by omega
        simp only [if_true]
        rw [decide_no this, decide_yes h]; rfl
      · have : ((pegsTo l k + 1 : Nat) : Int) % 2 = 1 := by omega
        simp only [if_true]
        rw [decide_yes this, decide_no h]; rfl
theorem pegs_p {v : Value} {l : List Bool} (hr : Rd (oldOf w) h Value.bool v l) (hm : l.length ≤ 1000000) :
    (EN w (n + 1)).pcall 41 [v] ⟨h, nx, p⟩ = some (.int .i64 (pegsTo l l.length), []) := by
  refine pcall_eq rfl rfl (Nat.le_of_ble_eq_true rfl) ?_
  repeat' (first | (simp (disch := first | omega | assumption |  exact callP_old _ _ _ _ _ | exact one_int _ _ | exact one_bool _ | exact one_string _ | exact one_slice _ _ _ | exact one_pointer _ | exact hget_push_one _ _ _ _ (by omega) | (simp only [List.length_map, List.length_set, List.length_replicate, List.length_cons, List.length_nil]; omega) | (rw [hget_push_lt _ _ _ _ (by omega)]; first | assumption | exact hget_push_one _ _ _ _ (by omega))) only [WW0, WW1, WW2, WW3, WW4, WW5, WW6, WW7, Option.map_some, args0, slotsL, opdsA, List.cons_append, List.nil_append, List.map_cons, List.map_nil, List.append_nil, Option.toList_some, Option.toList_none, Nat.reduceEqDiff, Nat.reduceLT, Nat.reduceAdd, Nat.reduceBEq, Int.reduceAdd, Int.reduceSub, Int.reduceLT, Int.reduceLE, Int.reduceEq, Int.reduceNeg, ↓reduceIte, if_true, if_false, Bool.false_eq_true, Bool.not_true, Bool.not_false, List.length_cons, List.length_nil, List.length_singleton, reduceCtorEq, Int.toNat_natCast, Nat.zero_add, Nat.add_zero, Int.add_sub_cancel, eq_self, List.drop_zero, List.drop_succ_cons, Option.some.injEq, Prod.mk.injEq, mkFnA, Bool.and_true, Bool.true_and, Bool.and_self, hr.len]) | (refine does_goI_dec (fun _ => ?_) (fun _ => ?_)) | (refine does_goG_dec (fun _ => ?_) (fun _ => ?_)) | (refine does_goI (fun _ => ?_) (fun _ => ?_)) | (refine does_goG (fun _ => ?_) (fun _ => ?_)))
  refine does_while (fun m fr t => ∃ k : Nat, m = l.length - k ∧ k ≤ l.length ∧ fr = [(0, v), (3, .int .i64 (pegsTo l k)), (4, .int .i64 k)] ∧ t = ⟨h, nx, nx⟩) (m := l.length) ?_ ?_ ?_
  · exact ⟨0, by omega, by omega, rfl, rfl⟩
  · simp (disch := first | omega | assumption |  exact callP_old _ _ _ _ _ | exact one_int _ _ | exact one_bool _ | exact one_string _ | exact one_slice _ _ _ | exact one_pointer _ | exact hget_push_one _ _ _ _ (by omega) | (simp only [List.length_map, List.length_set, List.length_replicate, List.length_cons, List.length_nil]; omega) | (rw [hget_push_lt _ _ _ _ (by omega)]; first | assumption | exact hget_push_one _ _ _ _ (by omega))) only [WW0, WW1, WW2, WW3, WW4, WW5, WW6, WW7, Option.map_some, args0, slotsL, opdsA, List.cons_append, List.nil_append, List.map_cons, List.map_nil, List.append_nil, Option.toList_some, Option.toList_none, Nat.reduceEqDiff, Nat.reduceLT, Nat.reduceAdd, Nat.reduceBEq, Int.reduceAdd, Int.reduceSub, Int.reduceLT, Int.reduceLE, Int.reduceEq, Int.reduceNeg, ↓reduceIte, if_true, if_false, Bool.false_eq_true, Bool.not_true, Bool.not_false, List.length_cons, List.length_nil, List.length_singleton, reduceCtorEq, Int.toNat_natCast, Nat.zero_add, Nat.add_zero, Int.add_sub_cancel, eq_self, List.drop_zero, List.drop_succ_cons, Option.some.injEq, Prod.mk.injEq, mkFnA, Bool.and_true, Bool.true_and, Bool.and_self]
    unfold many; omega
  · rintro m fr tt ⟨k, rfl, hk, rfl, rfl⟩
    have hp := pegsTo_le l k
    by_cases hlt : k < l.length
    · cases hb : l[k]!
      · repeat' (first | (simp (disch := first | omega | assumption |  exact callP_old _ _ _ _ _ | exact one_int _ _ | exact one_bool _ | exact one_string _ | exact one_slice _ _ _ | exact one_pointer _ | exact hget_push_one _ _ _ _ (by omega) | (simp only [List.length_map, List.length_set, List.length_replicate, List.length_cons, List.length_nil]; omega) | (rw [hget_push_lt _ _ _ _ (by omega)]; first | assumption | exact hget_push_one _ _ _ _ (by omega))) only [WW0, WW1, WW2, WW3, WW4, WW5, WW6, WW7, Option.map_some, args0, slotsL, opdsA, List.cons_append, List.nil_append, List.map_cons, List.map_nil, List.append_nil, Option.toList_some, Option.toList_none, Nat.reduceEqDiff, Nat.reduceLT, Nat.reduceAdd, Nat.reduceBEq, Int.reduceAdd, Int.reduceSub, Int.reduceLT, Int.reduceLE, Int.reduceEq, Int.reduceNeg, ↓reduceIte, if_true, if_false, Bool.false_eq_true, Bool.not_true, Bool.not_false, List.length_cons, List.length_nil, List.length_singleton, reduceCtorEq, Int.toNat_natCast, Nat.zero_add, Nat.add_zero, Int.add_sub_cancel, eq_self, List.drop_zero, List.drop_succ_cons, Option.some.injEq, Prod.mk.injEq, mkFnA, Bool.and_true, Bool.true_and, Bool.and_self, c41l0, hr.len, hr.idx, hr.load, hb]) | (refine does_goI_dec (fun _ => ?_) (fun _ => ?_)) | (refine does_goG_dec (fun _ => ?_) (fun _ => ?_)) | (refine does_goI (fun _ => ?_) (fun _ => ?_)) | (refine does_goG (fun _ => ?_) (fun _ => ?_)))
        refine ⟨_, ?_, k + 1, rfl, hlt, ?_⟩
        · omega
        · simp [pegsTo, hb]
      · repeat' (first | (simp (disch := first | omega | assumption |  exact callP_old _ _ _ _ _ | exact one_int _ _ | exact one_bool _ | exact one_string _ | exact one_slice _ _ _ | exact one_pointer _ | exact hget_push_one _ _ _ _ (by omega) | (simp only [List.length_map, List.length_set, List.length_replicate, List.length_cons, List.length_nil]; omega) | (rw [hget_push_lt _ _ _ _ (by omega)]; first | assumption | exact hget_push_one _ _ _ _ (by omega))) only [WW0, WW1, WW2, WW3, WW4, WW5, WW6, WW7, Option.map_some, args0, slotsL, opdsA, List.cons_append, List.nil_append, List.map_cons, List.map_nil, List.append_nil, Option.toList_some, Option.toList_none, Nat.reduceEqDiff, Nat.reduceLT, Nat.reduceAdd, Nat.reduceBEq, Int.reduceAdd, Int.reduceSub, Int.reduceLT, Int.reduceLE, Int.reduceEq, Int.reduceNeg, ↓reduceIte, if_true, if_false, Bool.false_eq_true, Bool.not_true, Bool.not_false, List.length_cons, List.length_nil, List.length_singleton, reduceCtorEq, Int.toNat_natCast, Nat.zero_add, Nat.add_zero, Int.add_sub_cancel, eq_self, List.drop_zero, List.drop_succ_cons, Option.some.injEq, Prod.mk.injEq, mkFnA, Bool.and_true, Bool.true_and, Bool.and_self, c41l0, hr.len, hr.idx, hr.load, hb]) | (refine does_goI_dec (fun _ => ?_) (fun _ => ?_)) | (refine does_goG_dec (fun _ => ?_) (fun _ => ?_)) | (refine does_goI (fun _ => ?_) (fun _ => ?_)) | (refine does_goG (fun _ => ?_) (fun _ => ?_)))
        refine ⟨_, ?_, k + 1, rfl, hlt, ?_⟩
        · omega
        · simp [pegsTo, hb]
    · have : k = l.length := by omega
      subst this
      repeat' (first | (simp (disch := first | omega | assumption |  exact callP_old _ _ _ _ _ | exact one_int _ _ | exact one_bool _ | exact one_string _ | exact one_slice _ _ _ | exact one_pointer _ | exact hget_push_one _ _ _ _ (by omega) | (simp only [List.length_map, List.length_set, List.length_replicate, List.length_cons, List.length_nil]; omega) | (rw [hget_push_lt _ _ _ _ (by omega)]; first | assumption | exact hget_push_one _ _ _ _ (by omega))) only [WW0, WW1, WW2, WW3, WW4, WW5, WW6, WW7, Option.map_some, args0, slotsL, opdsA, List.cons_append, List.nil_append, List.map_cons, List.map_nil, List.append_nil, Option.toList_some, Option.toList_none, Nat.reduceEqDiff, Nat.reduceLT, Nat.reduceAdd, Nat.reduceBEq, Int.reduceAdd, Int.reduceSub, Int.reduceLT, Int.reduceLE, Int.reduceEq, Int.reduceNeg, ↓reduceIte, if_true, if_false, Bool.false_eq_true, Bool.not_true, Bool.not_false, List.length_cons, List.length_nil, List.length_singleton, reduceCtorEq, Int.toNat_natCast, Nat.zero_add, Nat.add_zero, Int.add_sub_cancel, eq_self, List.drop_zero, List.drop_succ_cons, Option.some.injEq, Prod.mk.injEq, mkFnA, Bool.and_true, Bool.true_and, Bool.and_self, c41l0, hr.len]) | (refine does_goI_dec (fun _ => ?_) (fun _ => ?_)) | (refine does_goG_dec (fun _ => ?_) (fun _ => ?_)) | (refine does_goI (fun _ => ?_) (fun _ => ?_)) | (refine does_goG (fun _ => ?_) (fun _ => ?_)))
/-- the closure's answers -/
theorem odd_p {f : FuncId} {caps : List Value} (q : Nat) (pr : Nat → Bool) (hq : q ≤ 1000000) (hc : ∀ i, i < q → (EN w n).pcall f (.int .i64 i :: caps) ⟨h, nx, nx⟩ = some (.bool (pr i), [])) :
    (EN w (n + 1)).pcall 38 [.int .i64 q, .func (.func f) #[] caps.toArray] ⟨h, nx, p⟩ = some (.bool (oddTo pr q), []) := by
  refine pcall_eq rfl rfl (Nat.le_of_ble_eq_true rfl) ?_
  repeat' (first | (simp (disch := first | omega | assumption |  exact callP_old _ _ _ _ _ | exact one_int _ _ | exact one_bool _ | exact one_string _ | exact one_slice _ _ _ | exact one_pointer _ | exact hget_push_one _ _ _ _ (by omega) | (simp only [List.length_map, List.length_set, List.length_replicate, List.length_cons, List.length_nil]; omega) | (rw [hget_push_lt _ _ _ _ (by omega)]; first | assumption | exact hget_push_one _ _ _ _ (by omega))) only [WW0, WW1, WW2, WW3, WW4, WW5, WW6, WW7, Option.map_some, args0, slotsL, opdsA, List.cons_append, List.nil_append, List.map_cons, List.map_nil, List.append_nil, Option.toList_some, Option.toList_none, Nat.reduceEqDiff, Nat.reduceLT, Nat.reduceAdd, Nat.reduceBEq, Int.reduceAdd, Int.reduceSub, Int.reduceLT, Int.reduceLE, Int.reduceEq, Int.reduceNeg, ↓reduceIte, if_true, if_false, Bool.false_eq_true, Bool.not_true, Bool.not_false, List.length_cons, List.length_nil, List.length_singleton, reduceCtorEq, Int.toNat_natCast, Nat.zero_add, Nat.add_zero, Int.add_sub_cancel, eq_self, List.drop_zero, List.drop_succ_cons, Option.some.injEq, Prod.mk.injEq, mkFnA, Bool.and_true, Bool.true_and, Bool.and_self]) | (refine does_goI_dec (fun _ => ?_) (fun _ => ?_)) | (refine does_goG_dec (fun _ => ?_) (fun _ => ?_)) | (refine does_goI (fun _ => ?_) (fun _ => ?_)) | (refine does_goG (fun _ => ?_) (fun _ => ?_)))
  refine does_while (fun m fr t => ∃ k : Nat, m = q - k ∧ k ≤ q ∧ fr = [(1, .func (.func f) #[] caps.toArray), (5, .bool (oddTo pr k)), (7, .int .i64 q), (8, .int .i64 k)] ∧ t = ⟨h, nx, nx⟩) (m := q) ?_ ?_ ?_
  · exact ⟨0, by omega, by omega, rfl, rfl⟩
  · simp (disch := first | omega | assumption |  exact callP_old _ _ _ _ _ | exact one_int _ _ | exact one_bool _ | exact one_string _ | exact one_slice _ _ _ | exact one_pointer _ | exact hget_push_one _ _ _ _ (by omega) | (simp only [List.length_map, List.length_set, List.length_replicate, List.length_cons, List.length_nil]; omega) | (rw [hget_push_lt _ _ _ _ (by omega)]; first | assumption | exact hget_push_one _ _ _ _ (by omega))) only [WW0, WW1, WW2, WW3, WW4, WW5, WW6, WW7, Option.map_some, args0, slotsL, opdsA, List.cons_append, List.nil_append, List.map_cons, List.map_nil, List.append_nil, Option.toList_some, Option.toList_none, Nat.reduceEqDiff, Nat.reduceLT, Nat.reduceAdd, Nat.reduceBEq, Int.reduceAdd, Int.reduceSub, Int.reduceLT, Int.reduceLE, Int.reduceEq, Int.reduceNeg, ↓reduceIte, if_true, if_false, Bool.false_eq_true, Bool.not_true, Bool.not_false, List.length_cons, List.length_nil, List.length_singleton, reduceCtorEq, Int.toNat_natCast, Nat.zero_add, Nat.add_zero, Int.add_sub_cancel, eq_self, List.drop_zero, List.drop_succ_cons, Option.some.injEq, Prod.mk.injEq, mkFnA, Bool.and_true, Bool.true_and, Bool.and_self]
    unfold many; omega
  · rintro m fr tt ⟨k, rfl, hk, rfl, rfl⟩
    by_cases hlt : k < q
    · repeat' (first | (simp (disch := first | omega | assumption |  exact callP_old _ _ _ _ _ | exact one_int _ _ | exact one_bool _ | exact one_string _ | exact one_slice _ _ _ | exact one_pointer _ | exact hget_push_one _ _ _ _ (by omega) | (simp only [List.length_map, List.length_set, List.length_replicate, List.length_cons, List.length_nil]; omega) | (rw [hget_push_lt _ _ _ _ (by omega)]; first | assumption | exact hget_push_one _ _ _ _ (by omega))) only [WW0, WW1, WW2, WW3, WW4, WW5, WW6, WW7, Option.map_some, args0, slotsL, opdsA, List.cons_append, List.nil_append, List.map_cons, List.map_nil, List.append_nil, Option.toList_some, Option.toList_none, Nat.reduceEqDiff, Nat.reduceLT, Nat.reduceAdd, Nat.reduceBEq, Int.reduceAdd, Int.reduceSub, Int.reduceLT, Int.reduceLE, Int.reduceEq, Int.reduceNeg, ↓reduceIte, if_true, if_false, Bool.false_eq_true, Bool.not_true, Bool.not_false, List.length_cons, List.length_nil, List.length_singleton, reduceCtorEq, Int.toNat_natCast, Nat.zero_add, Nat.add_zero, Int.add_sub_cancel, eq_self, List.drop_zero, List.drop_succ_cons, Option.some.injEq, Prod.mk.injEq, mkFnA, Bool.and_true, Bool.true_and, Bool.and_self, c38l0, hc k hlt]) | (refine does_goI_dec (fun _ => ?_) (fun _ => ?_)) | (refine does_goG_dec (fun _ => ?_) (fun _ => ?_)) | (refine does_goI (fun _ => ?_) (fun _ => ?_)) | (refine does_goG (fun _ => ?_) (fun _ => ?_)))
      refine ⟨_, ?_, k + 1, rfl, hlt, ?_⟩
      · omega
      · simp [oddTo]
    · have : k = q := by omega
      subst this
      repeat' (first | (simp (disch := first | omega | assumption |  exact callP_old _ _ _ _ _ | exact one_int _ _ | exact one_bool _ | exact one_string _ | exact one_slice _ _ _ | exact one_pointer _ | exact hget_push_one _ _ _ _ (by omega) | (simp only [List.length_map, List.length_set, List.length_replicate, List.length_cons, List.length_nil]; omega) | (rw [hget_push_lt _ _ _ _ (by omega)]; first | assumption | exact hget_push_one _ _ _ _ (by omega))) only [WW0, WW1, WW2, WW3, WW4, WW5, WW6, WW7, Option.map_some, args0, slotsL, opdsA, List.cons_append, List.nil_append, List.map_cons, List.map_nil, List.append_nil, Option.toList_some, Option.toList_none, Nat.reduceEqDiff, Nat.reduceLT, Nat.reduceAdd, Nat.reduceBEq, Int.reduceAdd, Int.reduceSub, Int.reduceLT, Int.reduceLE, Int.reduceEq, Int.reduceNeg, ↓reduceIte, if_true, if_false, Bool.false_eq_true, Bool.not_true, Bool.not_false, List.length_cons, List.length_nil, List.length_singleton, reduceCtorEq, Int.toNat_natCast, Nat.zero_add, Nat.add_zero, Int.add_sub_cancel, eq_self, List.drop_zero, List.drop_succ_cons, Option.some.injEq, Prod.mk.injEq, mkFnA, Bool.and_true, Bool.true_and, Bool.and_self, c38l0]) | (refine does_goI_dec (fun _ => ?_) (fun _ => ?_)) | (refine does_goG_dec (fun _ => ?_) (fun _ => ?_)) | (refine does_goI (fun _ => ?_) (fun _ => ?_)) | (refine does_goG (fun _ => ?_) (fun _ => ?_)))
end
end Go.Proofs.YtepdkmdcainddaaDoor
