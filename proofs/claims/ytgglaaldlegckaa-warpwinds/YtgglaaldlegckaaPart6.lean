/- What is proved: the law WarpWinds returns true for every input. Conditions: none.
   Texts: C22, W22a, W22b, W22c, W22d, W22e, W22f, W22g.
-/
import Derived.Test.YtgglaaldlegckaaPart5
import Derived.Test.YtgglaaldlegckaaProg
/- The seat's functions as the interpreter runs them: written by a program out of the loaded form, and shown equal to it below. -/
namespace Go.Proofs.Ytgglaaldlegckaa
open Go Go.Itp
set_option maxRecDepth 100000
/- raddle/raddlelaw22.WarpWinds -/
def c3 : AFun := ⟨
  .seq (.ops [⟨(some 6), none, .mov (.const (.bool false))⟩] [0, 1, 2])
  (.seq (.seq (.ops [⟨(some 19), none, .mov (.tmp 0)⟩,
      ⟨(some 20), none, .callF 4 [(.tmp 19)]⟩] [0, 1, 2, 20])
  (.cond (.tmp 20)
    (.seq (.ops [⟨(some 6), none, .mov (.const (.bool true))⟩] [6])
    (.ret))
    (.skip)))
  (.seq (.ops [⟨(some 22), none, .mov (.tmp 0)⟩,
      ⟨(some 23), none, .mov (.tmp 1)⟩,
      ⟨(some 24), none, .mov (.tmp 2)⟩,
      ⟨(some 25), none, .callF 5 [(.tmp 22), (.tmp 23), (.tmp 24)]⟩,
      ⟨(some 21), none, .mov (.tmp 25)⟩,
      ⟨(some 26), none, .ext (.tmp 21) 0⟩,
      ⟨(some 27), none, .ext (.tmp 21) 1⟩,
      ⟨(some 7), none, .mov (.tmp 26)⟩,
      ⟨(some 8), none, .mov (.tmp 27)⟩] [0, 1, 2, 7, 8])
  (.seq (.ops [⟨(some 29), none, .mov (.tmp 0)⟩,
      ⟨(some 30), none, .mov (.tmp 1)⟩,
      ⟨(some 31), none, .mov (.tmp 2)⟩,
      ⟨(some 32), none, .callF 6 [(.tmp 29), (.tmp 30), (.tmp 31)]⟩,
      ⟨(some 28), none, .mov (.tmp 32)⟩,
      ⟨(some 33), none, .ext (.tmp 28) 0⟩,
      ⟨(some 34), none, .ext (.tmp 28) 1⟩,
      ⟨(some 9), none, .mov (.tmp 33)⟩,
      ⟨(some 10), none, .mov (.tmp 34)⟩] [0, 1, 2, 7, 8, 9, 10])
  (.seq (.ops [⟨(some 36), none, .mov (.tmp 0)⟩,
      ⟨(some 37), none, .mov (.tmp 1)⟩,
      ⟨(some 38), none, .mov (.tmp 2)⟩,
      ⟨(some 39), none, .callF 7 [(.tmp 36), (.tmp 37), (.tmp 38)]⟩,
      ⟨(some 35), none, .mov (.tmp 39)⟩,
      ⟨(some 40), none, .ext (.tmp 35) 0⟩,
      ⟨(some 41), none, .ext (.tmp 35) 1⟩,
      ⟨(some 11), none, .mov (.tmp 40)⟩,
      ⟨(some 12), none, .mov (.tmp 41)⟩] [0, 1, 2, 7, 8, 9, 10, 11, 12])
  (.seq (.ops [⟨(some 43), none, .mov (.tmp 0)⟩,
      ⟨(some 44), none, .mov (.tmp 1)⟩,
      ⟨(some 45), none, .mov (.tmp 2)⟩,
      ⟨(some 46), none, .callF 8 [(.tmp 43), (.tmp 44), (.tmp 45)]⟩,
      ⟨(some 42), none, .mov (.tmp 46)⟩,
      ⟨(some 47), none, .ext (.tmp 42) 0⟩,
      ⟨(some 48), none, .ext (.tmp 42) 1⟩,
      ⟨(some 13), none, .mov (.tmp 47)⟩,
      ⟨(some 14), none, .mov (.tmp 48)⟩] [0, 2, 7, 8, 9, 10, 11, 12, 13, 14])
  (.seq (.ops [⟨(some 50), none, .mov (.tmp 0)⟩,
      ⟨(some 51), none, .mov (.tmp 2)⟩,
      ⟨(some 52), none, .callF 9 [(.tmp 50), (.tmp 51)]⟩,
      ⟨(some 49), none, .mov (.tmp 52)⟩,
      ⟨(some 53), none, .ext (.tmp 49) 0⟩,
      ⟨(some 54), none, .ext (.tmp 49) 1⟩,
      ⟨(some 15), none, .mov (.tmp 53)⟩,
      ⟨(some 16), none, .mov (.tmp 54)⟩] [0, 2, 7, 8, 9, 10, 11, 12, 13, 14, 15, 16])
  (.seq (.ops [⟨(some 56), none, .mov (.tmp 0)⟩,
      ⟨(some 57), none, .mov (.tmp 2)⟩,
      ⟨(some 58), none, .callF 10 [(.tmp 56), (.tmp 57)]⟩,
      ⟨(some 55), none, .mov (.tmp 58)⟩,
      ⟨(some 59), none, .ext (.tmp 55) 0⟩,
      ⟨(some 60), none, .ext (.tmp 55) 1⟩,
      ⟨(some 17), none, .mov (.tmp 59)⟩,
      ⟨(some 18), none, .mov (.tmp 60)⟩] [7, 8, 9, 10, 11, 12, 13, 14, 15, 16, 17, 18])
  (.seq (.ops [⟨(some 61), none, .mov (.tmp 7)⟩,
      ⟨(some 62), none, .mov (.tmp 9)⟩,
      ⟨(some 63), none, .callF 11 [(.tmp 61), (.tmp 62)]⟩,
      ⟨(some 64), none, .mov (.tmp 63)⟩,
      ⟨(some 65), (some (64, true)), .mov (.tmp 8)⟩,
      ⟨(some 66), (some (64, true)), .mov (.tmp 10)⟩,
      ⟨(some 67), (some (64, true)), .bin .eql (.tmp 65) (.tmp 66)⟩,
      ⟨(some 68), none, .pick (.tmp 64) (.tmp 67) (.const (.bool false))⟩,
      ⟨(some 69), none, .mov (.tmp 68)⟩,
      ⟨(some 70), (some (69, true)), .mov (.tmp 11)⟩,
      ⟨(some 71), (some (69, true)), .mov (.tmp 13)⟩,
      ⟨(some 72), (some (69, true)), .callF 11 [(.tmp 70), (.tmp 71)]⟩,
      ⟨(some 73), none, .pick (.tmp 69) (.tmp 72) (.const (.bool false))⟩,
      ⟨(some 74), none, .mov (.tmp 73)⟩,
      ⟨(some 75), (some (74, true)), .mov (.tmp 12)⟩,
      ⟨(some 76), (some (74, true)), .mov (.tmp 14)⟩,
      ⟨(some 77), (some (74, true)), .bin .eql (.tmp 75) (.tmp 76)⟩,
      ⟨(some 78), none, .pick (.tmp 74) (.tmp 77) (.const (.bool false))⟩,
      ⟨(some 79), none, .mov (.tmp 78)⟩,
      ⟨(some 80), (some (79, true)), .mov (.tmp 15)⟩,
      ⟨(some 81), (some (79, true)), .mov (.tmp 17)⟩,
      ⟨(some 82), (some (79, true)), .callF 11 [(.tmp 80), (.tmp 81)]⟩,
      ⟨(some 83), none, .pick (.tmp 79) (.tmp 82) (.const (.bool false))⟩,
      ⟨(some 84), none, .mov (.tmp 83)⟩,
      ⟨(some 85), (some (84, true)), .mov (.tmp 16)⟩,
      ⟨(some 86), (some (84, true)), .mov (.tmp 18)⟩,
      ⟨(some 87), (some (84, true)), .bin .eql (.tmp 85) (.tmp 86)⟩,
      ⟨(some 88), none, .pick (.tmp 84) (.tmp 87) (.const (.bool false))⟩,
      ⟨(some 6), none, .mov (.tmp 88)⟩] [6])
  (.ret))))))))),
  89, [(6, none)], true⟩
/- raddle/raddleref22.Great -/
def c4 : AFun := ⟨
  .seq (.ops [⟨(some 2), none, .mov (.const (.bool false))⟩] [0])
  (.seq (.ops [⟨(some 3), none, .mov (.tmp 0)⟩,
      ⟨(some 4), none, .len false (.tmp 3)⟩,
      ⟨(some 5), none, .bin .gtr (.tmp 4) (.const (.int .i64 60))⟩,
      ⟨(some 6), none, .mov (.tmp 5)⟩,
      ⟨(some 7), (some (6, true)), .mov (.tmp 0)⟩,
      ⟨(some 8), (some (6, true)), .len false (.tmp 7)⟩,
      ⟨(some 9), (some (6, true)), .bin .leq (.tmp 8) (.const (.int .i64 4000))⟩,
      ⟨(some 10), none, .pick (.tmp 6) (.tmp 9) (.const (.bool false))⟩,
      ⟨(some 11), none, .mov (.tmp 10)⟩,
      ⟨(some 12), (some (11, false)), .mov (.tmp 0)⟩,
      ⟨(some 13), (some (11, false)), .len false (.tmp 12)⟩,
      ⟨(some 14), (some (11, false)), .bin .gtr (.tmp 13) (.const (.int .i64 4100))⟩,
      ⟨(some 15), none, .pick (.tmp 11) (.const (.bool true)) (.tmp 14)⟩,
      ⟨(some 2), none, .mov (.tmp 15)⟩] [2])
  (.ret)),
  16, [(2, none)], true⟩
/- raddle/warp.Wind -/
def c5 : AFun := ⟨
  .seq (.ops [⟨(some 6), none, .mov (.const (.slice none 0 0))⟩,
      ⟨(some 7), none, .mov (.const (.int .i64 0))⟩] [0, 1, 2])
  (.seq (.seq (.ops [⟨(some 8), none, .mov (.tmp 0)⟩,
      ⟨(some 9), none, .len false (.tmp 8)⟩,
      ⟨(some 10), none, .bin .lss (.tmp 9) (.const (.int .i64 1))⟩,
      ⟨(some 11), none, .mov (.tmp 10)⟩,
      ⟨(some 12), (some (11, false)), .mov (.tmp 0)⟩,
      ⟨(some 13), (some (11, false)), .len false (.tmp 12)⟩,
      ⟨(some 14), (some (11, false)), .bin .gtr (.tmp 13) (.const (.int .i64 64))⟩,
      ⟨(some 15), none, .pick (.tmp 11) (.const (.bool true)) (.tmp 14)⟩] [0, 1, 2, 15])
  (.cond (.tmp 15)
    (.seq (.ops [⟨(some 6), none, .mov (.const (.slice none 0 0))⟩,
        ⟨(some 7), none, .mov (.const (.int .i64 2))⟩] [6, 7])
    (.ret))
    (.skip)))
  (.seq (.seq (.ops [⟨(some 16), none, .mov (.tmp 0)⟩,
      ⟨(some 17), none, .callF 12 [(.tmp 16)]⟩,
      ⟨(some 18), none, .bin .neq (.tmp 17) (.const (.int .i64 0))⟩] [0, 1, 2, 18])
  (.cond (.tmp 18)
    (.seq (.ops [⟨(some 6), none, .mov (.const (.slice none 0 0))⟩,
        ⟨(some 7), none, .mov (.const (.int .i64 8))⟩] [6, 7])
    (.ret))
    (.skip)))
  (.seq (.seq (.ops [⟨(some 19), none, .mov (.tmp 1)⟩,
      ⟨(some 20), none, .bin .lss (.tmp 19) (.const (.int .i64 0))⟩,
      ⟨(some 21), none, .mov (.tmp 20)⟩,
      ⟨(some 22), (some (21, false)), .mov (.tmp 1)⟩,
      ⟨(some 23), (some (21, false)), .bin .gtr (.tmp 22) (.const (.int .i64 4000))⟩,
      ⟨(some 24), none, .pick (.tmp 21) (.const (.bool true)) (.tmp 23)⟩] [0, 1, 2, 24])
  (.cond (.tmp 24)
    (.seq (.ops [⟨(some 6), none, .mov (.const (.slice none 0 0))⟩,
        ⟨(some 7), none, .mov (.const (.int .i64 2))⟩] [6, 7])
    (.ret))
    (.skip)))
  (.seq (.seq (.ops [⟨(some 25), none, .mov (.tmp 1)⟩,
      ⟨(some 26), none, .mov (.tmp 0)⟩,
      ⟨(some 27), none, .len false (.tmp 26)⟩,
      ⟨(some 28), none, .bin .mul (.tmp 25) (.tmp 27)⟩,
      ⟨(some 29), none, .bin .gtr (.tmp 28) (.const (.int .i64 4000))⟩] [0, 1, 2, 29])
  (.cond (.tmp 29)
    (.seq (.ops [⟨(some 6), none, .mov (.const (.slice none 0 0))⟩,
        ⟨(some 7), none, .mov (.const (.int .i64 4))⟩] [6, 7])
    (.ret))
    (.skip)))
  (.seq (.ops [⟨(some 30), none, .mov (.tmp 2)⟩,
      ⟨(some 31), none, .callF 14 [(.tmp 30)]⟩,
      ⟨(some 32), none, .mov (.tmp 0)⟩,
      ⟨(some 33), none, .mov (.tmp 1)⟩,
      ⟨(some 34), none, .callF 13 [(.tmp 31), (.tmp 32), (.tmp 33)]⟩,
      ⟨(some 6), none, .mov (.tmp 34)⟩,
      ⟨(some 7), none, .mov (.const (.int .i64 0))⟩] [6, 7])
  (.ret)))))),
  35, [(6, none), (7, none)], true⟩
/- raddle/raddleref22.Wind -/
def c6l0 : AC :=
  .seq (.seq (.ops [⟨(some 32), none, .mov (.tmp 9)⟩,
          ⟨(some 33), none, .mov (.tmp 1)⟩,
          ⟨(some 34), none, .mov (.tmp 0)⟩,
          ⟨(some 35), none, .len false (.tmp 34)⟩,
          ⟨(some 36), none, .bin .mul (.tmp 33) (.tmp 35)⟩,
          ⟨(some 37), none, .bin .lss (.tmp 32) (.tmp 36)⟩] [0, 1, 2, 8, 9, 37])
      (.cond (.tmp 37)
        (.skip)
        (.exit 0)))
      (.seq (.block 1
        (.ops [⟨(some 40), none, .mov (.tmp 8)⟩,
            ⟨(some 41), none, .mov (.tmp 0)⟩,
            ⟨(some 42), none, .mov (.tmp 9)⟩,
            ⟨(some 43), none, .mov (.tmp 0)⟩,
            ⟨(some 44), none, .len false (.tmp 43)⟩,
            ⟨(some 45), none, .mov (.tmp 2)⟩,
            ⟨(some 46), none, .callF 16 [(.tmp 42), (.tmp 44), (.tmp 45)]⟩,
            ⟨(some 47), none, .idxS 1 (.tmp 41) (.tmp 46)⟩,
            ⟨(some 48), none, .load none (.tmp 47)⟩,
            ⟨(some 49), none, .mkRow 3 1 1 [(.int .i64 0)] [(0, 1, (.tmp 48))]⟩,
            ⟨(some 50), none, .app 3 1 8 (.tmp 40) (.tmp 49)⟩,
            ⟨(some 8), none, .mov (.tmp 50)⟩] [0, 1, 2, 8, 9]))
      (.ops [⟨(some 38), none, .mov (.tmp 9)⟩,
          ⟨(some 39), none, .bin .add (.tmp 38) (.const (.int .i64 1))⟩,
          ⟨(some 9), none, .mov (.tmp 39)⟩] [0, 1, 2, 8, 9]))
def c6 : AFun := ⟨
  .seq (.ops [⟨(some 6), none, .mov (.const (.slice none 0 0))⟩,
      ⟨(some 7), none, .mov (.const (.int .i64 0))⟩] [0, 1, 2])
  (.seq (.seq (.ops [⟨(some 10), none, .mov (.tmp 0)⟩,
      ⟨(some 11), none, .len false (.tmp 10)⟩,
      ⟨(some 12), none, .bin .eql (.tmp 11) (.const (.int .i64 0))⟩,
      ⟨(some 13), none, .mov (.tmp 12)⟩,
      ⟨(some 14), (some (13, false)), .mov (.tmp 0)⟩,
      ⟨(some 15), (some (13, false)), .len false (.tmp 14)⟩,
      ⟨(some 16), (some (13, false)), .bin .gtr (.tmp 15) (.const (.int .i64 64))⟩,
      ⟨(some 17), none, .pick (.tmp 13) (.const (.bool true)) (.tmp 16)⟩] [0, 1, 2, 17])
  (.cond (.tmp 17)
    (.seq (.ops [⟨(some 6), none, .mov (.const (.slice none 0 0))⟩,
        ⟨(some 7), none, .mov (.const (.int .i64 2))⟩] [6, 7])
    (.ret))
    (.skip)))
  (.seq (.seq (.ops [⟨(some 18), none, .mov (.tmp 0)⟩,
      ⟨(some 19), none, .callF 15 [(.tmp 18)]⟩,
      ⟨(some 20), none, .bin .neq (.tmp 19) (.const (.int .i64 0))⟩] [0, 1, 2, 20])
  (.cond (.tmp 20)
    (.seq (.ops [⟨(some 6), none, .mov (.const (.slice none 0 0))⟩,
        ⟨(some 7), none, .mov (.const (.int .i64 8))⟩] [6, 7])
    (.ret))
    (.skip)))
  (.seq (.seq (.ops [⟨(some 21), none, .mov (.tmp 1)⟩,
      ⟨(some 22), none, .bin .lss (.tmp 21) (.const (.int .i64 0))⟩,
      ⟨(some 23), none, .mov (.tmp 22)⟩,
      ⟨(some 24), (some (23, false)), .mov (.tmp 1)⟩,
      ⟨(some 25), (some (23, false)), .bin .gtr (.tmp 24) (.const (.int .i64 4000))⟩,
      ⟨(some 26), none, .pick (.tmp 23) (.const (.bool true)) (.tmp 25)⟩] [0, 1, 2, 26])
  (.cond (.tmp 26)
    (.seq (.ops [⟨(some 6), none, .mov (.const (.slice none 0 0))⟩,
        ⟨(some 7), none, .mov (.const (.int .i64 2))⟩] [6, 7])
    (.ret))
    (.skip)))
  (.seq (.seq (.ops [⟨(some 27), none, .mov (.tmp 1)⟩,
      ⟨(some 28), none, .mov (.tmp 0)⟩,
      ⟨(some 29), none, .len false (.tmp 28)⟩,
      ⟨(some 30), none, .bin .mul (.tmp 27) (.tmp 29)⟩,
      ⟨(some 31), none, .bin .gtr (.tmp 30) (.const (.int .i64 4000))⟩] [0, 1, 2, 31])
  (.cond (.tmp 31)
    (.seq (.ops [⟨(some 6), none, .mov (.const (.slice none 0 0))⟩,
        ⟨(some 7), none, .mov (.const (.int .i64 4))⟩] [6, 7])
    (.ret))
    (.skip)))
  (.seq (.ops [⟨(some 8), none, .mov (.const (.slice none 0 0))⟩] [0, 1, 2, 8])
  (.seq (.seq (.ops [⟨(some 9), none, .mov (.const (.int .i64 0))⟩] [0, 1, 2, 8, 9])
  (.block 0
    (.loop [0, 1, 2, 8, 9]
      c6l0)))
  (.seq (.ops [⟨(some 51), none, .mov (.tmp 8)⟩,
      ⟨(some 6), none, .mov (.tmp 51)⟩,
      ⟨(some 7), none, .mov (.const (.int .i64 0))⟩] [6, 7])
  (.ret)))))))),
  52, [(6, none), (7, none)], true⟩
/- raddle/warp.Cones -/
def c7 : AFun := ⟨
  .seq (.ops [⟨(some 6), none, .mov (.const (.slice none 0 0))⟩,
      ⟨(some 7), none, .mov (.const (.int .i64 0))⟩] [0, 1, 2])
  (.seq (.seq (.ops [⟨(some 9), none, .mov (.tmp 0)⟩,
      ⟨(some 10), none, .callF 12 [(.tmp 9)]⟩,
      ⟨(some 8), none, .mov (.tmp 10)⟩] [0, 1, 2, 8])
  (.seq (.ops [⟨(some 11), none, .mov (.tmp 8)⟩,
      ⟨(some 12), none, .bin .neq (.tmp 11) (.const (.int .i64 0))⟩] [0, 1, 2, 8, 12])
  (.cond (.tmp 12)
    (.seq (.ops [⟨(some 13), none, .mov (.tmp 8)⟩,
        ⟨(some 6), none, .mov (.const (.slice none 0 0))⟩,
        ⟨(some 7), none, .mov (.tmp 13)⟩] [6, 7])
    (.ret))
    (.skip))))
  (.seq (.seq (.ops [⟨(some 14), none, .mov (.tmp 1)⟩,
      ⟨(some 15), none, .bin .lss (.tmp 14) (.const (.int .i64 1))⟩,
      ⟨(some 16), none, .mov (.tmp 15)⟩,
      ⟨(some 17), (some (16, false)), .mov (.tmp 1)⟩,
      ⟨(some 18), (some (16, false)), .bin .gtr (.tmp 17) (.const (.int .i64 64))⟩,
      ⟨(some 19), none, .pick (.tmp 16) (.const (.bool true)) (.tmp 18)⟩] [0, 1, 2, 19])
  (.cond (.tmp 19)
    (.seq (.ops [⟨(some 6), none, .mov (.const (.slice none 0 0))⟩,
        ⟨(some 7), none, .mov (.const (.int .i64 2))⟩] [6, 7])
    (.ret))
    (.skip)))
  (.seq (.seq (.ops [⟨(some 20), none, .mov (.tmp 0)⟩,
      ⟨(some 21), none, .len false (.tmp 20)⟩,
      ⟨(some 22), none, .bin .eql (.tmp 21) (.const (.int .i64 0))⟩,
      ⟨(some 23), none, .mov (.tmp 22)⟩,
      ⟨(some 24), (some (23, false)), .mov (.tmp 0)⟩,
      ⟨(some 25), (some (23, false)), .len false (.tmp 24)⟩,
      ⟨(some 26), (some (23, false)), .mov (.tmp 1)⟩,
      ⟨(some 27), (some (23, false)), .bin .rem (.tmp 25) (.tmp 26)⟩,
      ⟨(some 28), (some (23, false)), .bin .neq (.tmp 27) (.const (.int .i64 0))⟩,
      ⟨(some 29), none, .pick (.tmp 23) (.const (.bool true)) (.tmp 28)⟩] [0, 1, 2, 29])
  (.cond (.tmp 29)
    (.seq (.ops [⟨(some 6), none, .mov (.const (.slice none 0 0))⟩,
        ⟨(some 7), none, .mov (.const (.int .i64 26))⟩] [6, 7])
    (.ret))
    (.skip)))
  (.seq (.seq (.draw [⟨(some 30), none, .mov (.tmp 2)⟩,
      ⟨(some 31), none, .callF 14 [(.tmp 30)]⟩,
      ⟨(some 32), none, .mov (.tmp 0)⟩,
      ⟨(some 33), none, .mov (.tmp 1)⟩,
      ⟨(some 34), none, .slc 1 (.tmp 32) none (some (.tmp 33)) none⟩,
      ⟨(some 35), none, .mov (.tmp 0)⟩,
      ⟨(some 36), none, .len false (.tmp 35)⟩,
      ⟨(some 37), none, .mov (.tmp 1)⟩,
      ⟨(some 38), none, .bin .quo (.tmp 36) (.tmp 37)⟩,
      ⟨(some 39), none, .callF 13 [(.tmp 31), (.tmp 34), (.tmp 38)]⟩,
      ⟨(some 40), none, .mov (.tmp 0)⟩] [⟨(some 41), none, .callF 17 [(.tmp 39), (.tmp 40)]⟩,
      ⟨(some 42), none, .un .not (.tmp 41)⟩] [[], [], [false, false], [false, false, false], [true, true, false, false], [false, false, false, false, false], [true, false, false, false, false, false], [false, false, false, false, false, false, false], [true, true, true, false, false, false, false, false], [], [false, false, false, false, false, false, false, false, false, false]] [0, 1, 42])
  (.cond (.tmp 42)
    (.seq (.ops [⟨(some 6), none, .mov (.const (.slice none 0 0))⟩,
        ⟨(some 7), none, .mov (.const (.int .i64 6))⟩] [6, 7])
    (.ret))
    (.skip)))
  (.seq (.ops [⟨(some 43), none, .mov (.tmp 0)⟩,
      ⟨(some 44), none, .mov (.tmp 1)⟩,
      ⟨(some 45), none, .slc 1 (.tmp 43) none (some (.tmp 44)) none⟩,
      ⟨(some 46), none, .callF 18 [(.tmp 45)]⟩,
      ⟨(some 6), none, .mov (.tmp 46)⟩,
      ⟨(some 7), none, .mov (.const (.int .i64 0))⟩] [6, 7])
  (.ret)))))),
  47, [(6, none), (7, none)], true⟩
/- raddle/raddleref22.Cones -/
def c8l0 : AC :=
  .seq (.seq (.ops [⟨(some 31), none, .mov (.tmp 8)⟩,
          ⟨(some 32), none, .mov (.tmp 0)⟩,
          ⟨(some 33), none, .len false (.tmp 32)⟩,
          ⟨(some 34), none, .bin .lss (.tmp 31) (.tmp 33)⟩] [0, 1, 2, 8, 34])
      (.cond (.tmp 34)
        (.skip)
        (.exit 0)))
      (.seq (.block 1
        (.seq (.draw [⟨(some 37), none, .mov (.tmp 0)⟩,
            ⟨(some 38), none, .mov (.tmp 8)⟩,
            ⟨(some 39), none, .idxS 1 (.tmp 37) (.tmp 38)⟩,
            ⟨(some 40), none, .load none (.tmp 39)⟩,
            ⟨(some 41), none, .mov (.tmp 0)⟩,
            ⟨(some 42), none, .mov (.tmp 8)⟩,
            ⟨(some 43), none, .mov (.tmp 1)⟩,
            ⟨(some 44), none, .mov (.tmp 2)⟩,
            ⟨(some 45), none, .callF 16 [(.tmp 42), (.tmp 43), (.tmp 44)]⟩,
            ⟨(some 46), none, .idxS 1 (.tmp 41) (.tmp 45)⟩,
            ⟨(some 47), none, .load none (.tmp 46)⟩] [⟨(some 48), none, .bin .neq (.tmp 40) (.tmp 47)⟩] [[], [], [], [], [], [], [], [], [], [], []] [0, 1, 2, 8, 48])
        (.cond (.tmp 48)
          (.seq (.ops [⟨(some 6), none, .mov (.const (.slice none 0 0))⟩,
              ⟨(some 7), none, .mov (.const (.int .i64 6))⟩] [6, 7])
          (.ret))
          (.skip))))
      (.ops [⟨(some 35), none, .mov (.tmp 8)⟩,
          ⟨(some 36), none, .bin .add (.tmp 35) (.const (.int .i64 1))⟩,
          ⟨(some 8), none, .mov (.tmp 36)⟩] [0, 1, 2, 8]))
def c8 : AFun := ⟨
  .seq (.ops [⟨(some 6), none, .mov (.const (.slice none 0 0))⟩,
      ⟨(some 7), none, .mov (.const (.int .i64 0))⟩] [0, 1, 2])
  (.seq (.seq (.ops [⟨(some 9), none, .mov (.tmp 0)⟩,
      ⟨(some 10), none, .callF 15 [(.tmp 9)]⟩,
      ⟨(some 11), none, .bin .neq (.tmp 10) (.const (.int .i64 0))⟩] [0, 1, 2, 11])
  (.cond (.tmp 11)
    (.seq (.ops [⟨(some 12), none, .mov (.tmp 0)⟩,
        ⟨(some 13), none, .callF 15 [(.tmp 12)]⟩,
        ⟨(some 6), none, .mov (.const (.slice none 0 0))⟩,
        ⟨(some 7), none, .mov (.tmp 13)⟩] [6, 7])
    (.ret))
    (.skip)))
  (.seq (.seq (.ops [⟨(some 14), none, .mov (.tmp 1)⟩,
      ⟨(some 15), none, .bin .lss (.tmp 14) (.const (.int .i64 1))⟩,
      ⟨(some 16), none, .mov (.tmp 15)⟩,
      ⟨(some 17), (some (16, false)), .mov (.tmp 1)⟩,
      ⟨(some 18), (some (16, false)), .bin .gtr (.tmp 17) (.const (.int .i64 64))⟩,
      ⟨(some 19), none, .pick (.tmp 16) (.const (.bool true)) (.tmp 18)⟩] [0, 1, 2, 19])
  (.cond (.tmp 19)
    (.seq (.ops [⟨(some 6), none, .mov (.const (.slice none 0 0))⟩,
        ⟨(some 7), none, .mov (.const (.int .i64 2))⟩] [6, 7])
    (.ret))
    (.skip)))
  (.seq (.seq (.ops [⟨(some 20), none, .mov (.tmp 0)⟩,
      ⟨(some 21), none, .len false (.tmp 20)⟩,
      ⟨(some 22), none, .bin .eql (.tmp 21) (.const (.int .i64 0))⟩,
      ⟨(some 23), none, .mov (.tmp 22)⟩,
      ⟨(some 24), (some (23, false)), .mov (.tmp 0)⟩,
      ⟨(some 25), (some (23, false)), .len false (.tmp 24)⟩,
      ⟨(some 26), (some (23, false)), .mov (.tmp 1)⟩,
      ⟨(some 27), (some (23, false)), .bin .rem (.tmp 25) (.tmp 26)⟩,
      ⟨(some 28), (some (23, false)), .bin .neq (.tmp 27) (.const (.int .i64 0))⟩,
      ⟨(some 29), none, .pick (.tmp 23) (.const (.bool true)) (.tmp 28)⟩] [0, 1, 2, 29])
  (.cond (.tmp 29)
    (.seq (.ops [⟨(some 6), none, .mov (.const (.slice none 0 0))⟩,
        ⟨(some 7), none, .mov (.const (.int .i64 26))⟩] [6, 7])
    (.ret))
    (.skip)))
  (.seq (.seq (.ops [⟨(some 30), none, .mov (.tmp 1)⟩,
      ⟨(some 8), none, .mov (.tmp 30)⟩] [0, 1, 2, 8])
  (.block 0
    (.loop [0, 1, 2, 8]
      c8l0)))
  (.seq (.ops [⟨(some 49), none, .mkRow 3 1 0 [(.int .i64 0)] []⟩,
      ⟨(some 50), none, .mov (.tmp 0)⟩,
      ⟨(some 51), none, .mov (.tmp 1)⟩,
      ⟨(some 52), none, .slc 1 (.tmp 50) none (some (.tmp 51)) none⟩,
      ⟨(some 53), none, .app 3 1 8 (.tmp 49) (.tmp 52)⟩,
      ⟨(some 6), none, .mov (.tmp 53)⟩,
      ⟨(some 7), none, .mov (.const (.int .i64 0))⟩] [6, 7])
  (.ret)))))),
  54, [(6, none), (7, none)], true⟩
/- raddle/warp.Fewest -/
def c9l0 : AC :=
  .seq (.seq (.ops [⟨(some 15), none, .mov (.tmp 7)⟩,
          ⟨(some 16), none, .mov (.tmp 0)⟩,
          ⟨(some 17), none, .len false (.tmp 16)⟩,
          ⟨(some 18), none, .mm false (.const (.int .i64 64)) (.tmp 17)⟩,
          ⟨(some 19), none, .bin .leq (.tmp 15) (.tmp 18)⟩] [0, 1, 7, 19])
      (.cond (.tmp 19)
        (.skip)
        (.exit 0)))
      (.seq (.block 1
        (.seq (.ops [⟨(some 23), none, .mov (.tmp 0)⟩,
            ⟨(some 24), none, .mov (.tmp 7)⟩,
            ⟨(some 25), none, .mov (.tmp 1)⟩,
            ⟨(some 26), none, .callF 7 [(.tmp 23), (.tmp 24), (.tmp 25)]⟩,
            ⟨(some 22), none, .mov (.tmp 26)⟩,
            ⟨(some 27), none, .ext (.tmp 22) 0⟩,
            ⟨(some 28), none, .ext (.tmp 22) 1⟩,
            ⟨(some 8), none, .mov (.tmp 27)⟩,
            ⟨(some 9), none, .mov (.tmp 28)⟩] [0, 1, 7, 8, 9])
        (.seq (.ops [⟨(some 29), none, .mov (.tmp 9)⟩,
            ⟨(some 30), none, .bin .eql (.tmp 29) (.const (.int .i64 0))⟩] [0, 1, 7, 8, 30])
        (.cond (.tmp 30)
          (.seq (.ops [⟨(some 31), none, .mov (.tmp 8)⟩,
              ⟨(some 4), none, .mov (.tmp 31)⟩,
              ⟨(some 5), none, .mov (.const (.int .i64 0))⟩] [4, 5])
          (.ret))
          (.skip)))))
      (.ops [⟨(some 20), none, .mov (.tmp 7)⟩,
          ⟨(some 21), none, .bin .add (.tmp 20) (.const (.int .i64 1))⟩,
          ⟨(some 7), none, .mov (.tmp 21)⟩] [0, 1, 7]))
def c9 : AFun := ⟨
  .seq (.ops [⟨(some 4), none, .mov (.const (.slice none 0 0))⟩,
      ⟨(some 5), none, .mov (.const (.int .i64 0))⟩] [0, 1])
  (.seq (.seq (.ops [⟨(some 10), none, .mov (.tmp 0)⟩,
      ⟨(some 11), none, .callF 12 [(.tmp 10)]⟩,
      ⟨(some 6), none, .mov (.tmp 11)⟩] [0, 1, 6])
  (.seq (.ops [⟨(some 12), none, .mov (.tmp 6)⟩,
      ⟨(some 13), none, .bin .neq (.tmp 12) (.const (.int .i64 0))⟩] [0, 1, 6, 13])
  (.cond (.tmp 13)
    (.seq (.ops [⟨(some 14), none, .mov (.tmp 6)⟩,
        ⟨(some 4), none, .mov (.const (.slice none 0 0))⟩,
        ⟨(some 5), none, .mov (.tmp 14)⟩] [4, 5])
    (.ret))
    (.skip))))
  (.seq (.seq (.ops [⟨(some 7), none, .mov (.const (.int .i64 1))⟩] [0, 1, 7])
  (.block 0
    (.loop [0, 1, 7]
      c9l0)))
  (.seq (.ops [⟨(some 4), none, .mov (.const (.slice none 0 0))⟩,
      ⟨(some 5), none, .mov (.const (.int .i64 6))⟩] [4, 5])
  (.ret)))),
  32, [(4, none), (5, none)], true⟩
/- raddle/raddleref22.Fewest -/
def c10l0 : AC :=
  .seq (.seq (.ops [⟨(some 14), none, .mov (.tmp 6)⟩,
          ⟨(some 15), none, .bin .leq (.tmp 14) (.const (.int .i64 64))⟩] [0, 1, 6, 15])
      (.cond (.tmp 15)
        (.skip)
        (.exit 0)))
      (.seq (.block 1
        (.seq (.ops [⟨(some 19), none, .mov (.tmp 0)⟩,
            ⟨(some 20), none, .mov (.tmp 6)⟩,
            ⟨(some 21), none, .mov (.tmp 1)⟩,
            ⟨(some 22), none, .callF 8 [(.tmp 19), (.tmp 20), (.tmp 21)]⟩,
            ⟨(some 18), none, .mov (.tmp 22)⟩,
            ⟨(some 23), none, .ext (.tmp 18) 0⟩,
            ⟨(some 24), none, .ext (.tmp 18) 1⟩,
            ⟨(some 7), none, .mov (.tmp 23)⟩,
            ⟨(some 8), none, .mov (.tmp 24)⟩] [0, 1, 6, 7, 8])
        (.seq (.ops [⟨(some 25), none, .mov (.tmp 8)⟩,
            ⟨(some 26), none, .bin .eql (.tmp 25) (.const (.int .i64 0))⟩] [0, 1, 6, 7, 26])
        (.cond (.tmp 26)
          (.seq (.ops [⟨(some 27), none, .mov (.tmp 7)⟩,
              ⟨(some 4), none, .mov (.tmp 27)⟩,
              ⟨(some 5), none, .mov (.const (.int .i64 0))⟩] [4, 5])
          (.ret))
          (.skip)))))
      (.ops [⟨(some 16), none, .mov (.tmp 6)⟩,
          ⟨(some 17), none, .bin .add (.tmp 16) (.const (.int .i64 1))⟩,
          ⟨(some 6), none, .mov (.tmp 17)⟩] [0, 1, 6]))
def c10 : AFun := ⟨
  .seq (.ops [⟨(some 4), none, .mov (.const (.slice none 0 0))⟩,
      ⟨(some 5), none, .mov (.const (.int .i64 0))⟩] [0, 1])
  (.seq (.seq (.ops [⟨(some 9), none, .mov (.tmp 0)⟩,
      ⟨(some 10), none, .callF 15 [(.tmp 9)]⟩,
      ⟨(some 11), none, .bin .neq (.tmp 10) (.const (.int .i64 0))⟩] [0, 1, 11])
  (.cond (.tmp 11)
    (.seq (.ops [⟨(some 12), none, .mov (.tmp 0)⟩,
        ⟨(some 13), none, .callF 15 [(.tmp 12)]⟩,
        ⟨(some 4), none, .mov (.const (.slice none 0 0))⟩,
        ⟨(some 5), none, .mov (.tmp 13)⟩] [4, 5])
    (.ret))
    (.skip)))
  (.seq (.seq (.ops [⟨(some 6), none, .mov (.const (.int .i64 1))⟩] [0, 1, 6])
  (.block 0
    (.loop [0, 1, 6]
      c10l0)))
  (.seq (.ops [⟨(some 4), none, .mov (.const (.slice none 0 0))⟩,
      ⟨(some 5), none, .mov (.const (.int .i64 6))⟩] [4, 5])
  (.ret)))),
  28, [(4, none), (5, none)], true⟩
/- raddle/raddleref21.Same -/
def c11l0 : AC :=
  .seq (.seq (.ops [⟨(some 11), none, .mov (.tmp 5)⟩,
          ⟨(some 12), none, .mov (.tmp 0)⟩,
          ⟨(some 13), none, .len false (.tmp 12)⟩,
          ⟨(some 14), none, .bin .lss (.tmp 11) (.tmp 13)⟩] [0, 1, 5, 14])
      (.cond (.tmp 14)
        (.skip)
        (.exit 0)))
      (.seq (.block 1
        (.seq (.draw [⟨(some 17), none, .mov (.tmp 0)⟩,
            ⟨(some 18), none, .mov (.tmp 5)⟩,
            ⟨(some 19), none, .idxS 1 (.tmp 17) (.tmp 18)⟩,
            ⟨(some 20), none, .load none (.tmp 19)⟩,
            ⟨(some 21), none, .mov (.tmp 1)⟩,
            ⟨(some 22), none, .mov (.tmp 5)⟩,
            ⟨(some 23), none, .idxS 1 (.tmp 21) (.tmp 22)⟩,
            ⟨(some 24), none, .load none (.tmp 23)⟩] [⟨(some 25), none, .bin .neq (.tmp 20) (.tmp 24)⟩] [[], [], [], [], [], [], [], []] [0, 1, 5, 25])
        (.cond (.tmp 25)
          (.seq (.ops [⟨(some 4), none, .mov (.const (.bool false))⟩] [4])
          (.ret))
          (.skip))))
      (.ops [⟨(some 15), none, .mov (.tmp 5)⟩,
          ⟨(some 16), none, .bin .add (.tmp 15) (.const (.int .i64 1))⟩,
          ⟨(some 5), none, .mov (.tmp 16)⟩] [0, 1, 5]))
def c11 : AFun := ⟨
  .seq (.ops [⟨(some 4), none, .mov (.const (.bool false))⟩] [0, 1])
  (.seq (.seq (.ops [⟨(some 6), none, .mov (.tmp 0)⟩,
      ⟨(some 7), none, .len false (.tmp 6)⟩,
      ⟨(some 8), none, .mov (.tmp 1)⟩,
      ⟨(some 9), none, .len false (.tmp 8)⟩,
      ⟨(some 10), none, .bin .neq (.tmp 7) (.tmp 9)⟩] [0, 1, 10])
  (.cond (.tmp 10)
    (.seq (.ops [⟨(some 4), none, .mov (.const (.bool false))⟩] [4])
    (.ret))
    (.skip)))
  (.seq (.seq (.ops [⟨(some 5), none, .mov (.const (.int .i64 0))⟩] [0, 1, 5])
  (.block 0
    (.loop [0, 1, 5]
      c11l0)))
  (.seq (.ops [⟨(some 4), none, .mov (.const (.bool true))⟩] [4])
  (.ret)))),
  26, [(4, none)], true⟩
/- raddle/warp.Check -/
def c12 : AFun := ⟨
  .seq (.ops [⟨(some 2), none, .mov (.const (.int .i64 0))⟩] [0])
  (.seq (.seq (.ops [⟨(some 3), none, .mov (.tmp 0)⟩,
      ⟨(some 4), none, .len false (.tmp 3)⟩,
      ⟨(some 5), none, .bin .gtr (.tmp 4) (.const (.int .i64 4000))⟩] [0, 5])
  (.cond (.tmp 5)
    (.seq (.ops [⟨(some 2), none, .mov (.const (.int .i64 4))⟩] [2])
    (.ret))
    (.skip)))
  (.seq (.seq (.ops [⟨(some 6), none, .mov (.tmp 0)⟩,
      ⟨(some 7), none, .callF 19 [(.tmp 6), (.func 20)]⟩] [7])
  (.cond (.tmp 7)
    (.seq (.ops [⟨(some 2), none, .mov (.const (.int .i64 8))⟩] [2])
    (.ret))
    (.skip)))
  (.seq (.ops [⟨(some 2), none, .mov (.const (.int .i64 0))⟩] [2])
  (.ret)))),
  8, [(2, none)], true⟩
/- raddle/warp.wind -/
def c13l0 : AC :=
  .seq (.ops [⟨(some 11), none, .bin .lss (.tmp 10) (.tmp 9)⟩] [0, 1, 7, 9, 10, 11])
      (.seq (.cond (.tmp 11)
        (.skip)
        (.exit 0))
      (.seq (.block 1
        (.seq (.ops [⟨(some 12), none, .mov (.tmp 10)⟩,
            ⟨(some 8), none, .mov (.tmp 12)⟩] [0, 1, 7, 8, 9, 10])
        (.ops [⟨(some 13), none, .mov (.tmp 7)⟩,
            ⟨(some 14), none, .mov (.tmp 0)⟩,
            ⟨(some 15), none, .mov (.tmp 1)⟩,
            ⟨(some 16), none, .mov (.tmp 8)⟩,
            ⟨(some 17), none, .callI [(45, 39), (46, 41)] (.tmp 14) [(.tmp 15), (.tmp 16)]⟩,
            ⟨(some 18), none, .app 3 1 8 (.tmp 13) (.tmp 17)⟩,
            ⟨(some 7), none, .mov (.tmp 18)⟩] [0, 1, 7, 9, 10])))
      (.ops [⟨(some 19), none, .bin .add (.tmp 10) (.const (.int .i64 1))⟩,
          ⟨(some 10), none, .mov (.tmp 19)⟩] [0, 1, 7, 9, 10])))
def c13 : AFun := ⟨
  .seq (.ops [⟨(some 6), none, .mov (.const (.slice none 0 0))⟩] [0, 1, 2])
  (.seq (.ops [⟨(some 7), none, .mov (.const (.slice none 0 0))⟩] [0, 1, 2, 7])
  (.seq (.seq (.ops [⟨(some 9), none, .mov (.tmp 2)⟩,
      ⟨(some 10), none, .mov (.const (.int .i64 0))⟩] [0, 1, 7, 9, 10])
  (.block 0
    (.loop [0, 1, 7, 9, 10]
      c13l0)))
  (.seq (.ops [⟨(some 20), none, .mov (.tmp 7)⟩,
      ⟨(some 6), none, .mov (.tmp 20)⟩] [6])
  (.ret)))),
  21, [(6, none)], true⟩
/- raddle/warp.of -/
def c14 : AFun := ⟨
  .seq (.ops [⟨(some 2), none, .mov (.const .nilIface)⟩] [0])
  (.seq (.seq (.ops [⟨(some 3), none, .mov (.tmp 0)⟩] [3])
  (.cond (.tmp 3)
    (.seq (.ops [⟨(some 4), none, .build [] []⟩,
        ⟨(some 5), none, .mkIf 45 (.tmp 4)⟩,
        ⟨(some 2), none, .mov (.tmp 5)⟩] [2])
    (.ret))
    (.skip)))
  (.seq (.ops [⟨(some 6), none, .build [] []⟩,
      ⟨(some 7), none, .mkIf 46 (.tmp 6)⟩,
      ⟨(some 2), none, .mov (.tmp 7)⟩] [2])
  (.ret))),
  8, [(2, none)], true⟩
/- raddle/raddleref22.Check -/
def c15l0 : AC :=
  .seq (.seq (.ops [⟨(some 7), none, .mov (.tmp 3)⟩,
          ⟨(some 8), none, .mov (.tmp 0)⟩,
          ⟨(some 9), none, .len false (.tmp 8)⟩,
          ⟨(some 10), none, .bin .lss (.tmp 7) (.tmp 9)⟩] [0, 3, 10])
      (.cond (.tmp 10)
        (.skip)
        (.exit 0)))
      (.seq (.block 1
        (.seq (.ops [⟨(some 13), none, .mov (.tmp 0)⟩,
            ⟨(some 14), none, .mov (.tmp 3)⟩,
            ⟨(some 15), none, .idxS 1 (.tmp 13) (.tmp 14)⟩,
            ⟨(some 16), none, .load none (.tmp 15)⟩,
            ⟨(some 17), none, .bin .lss (.tmp 16) (.const (.int .i64 0))⟩,
            ⟨(some 18), none, .mov (.tmp 17)⟩,
            ⟨(some 19), (some (18, false)), .mov (.tmp 0)⟩,
            ⟨(some 20), (some (18, false)), .mov (.tmp 3)⟩,
            ⟨(some 21), (some (18, false)), .idxS 1 (.tmp 19) (.tmp 20)⟩,
            ⟨(some 22), (some (18, false)), .load none (.tmp 21)⟩,
            ⟨(some 23), (some (18, false)), .bin .gtr (.tmp 22) (.const (.int .i64 15))⟩,
            ⟨(some 24), none, .pick (.tmp 18) (.const (.bool true)) (.tmp 23)⟩] [0, 3, 24])
        (.cond (.tmp 24)
          (.seq (.ops [⟨(some 2), none, .mov (.const (.int .i64 8))⟩] [2])
          (.ret))
          (.skip))))
      (.ops [⟨(some 11), none, .mov (.tmp 3)⟩,
          ⟨(some 12), none, .bin .add (.tmp 11) (.const (.int .i64 1))⟩,
          ⟨(some 3), none, .mov (.tmp 12)⟩] [0, 3]))
def c15 : AFun := ⟨
  .seq (.ops [⟨(some 2), none, .mov (.const (.int .i64 0))⟩] [0])
  (.seq (.seq (.ops [⟨(some 4), none, .mov (.tmp 0)⟩,
      ⟨(some 5), none, .len false (.tmp 4)⟩,
      ⟨(some 6), none, .bin .gtr (.tmp 5) (.const (.int .i64 4000))⟩] [0, 6])
  (.cond (.tmp 6)
    (.seq (.ops [⟨(some 2), none, .mov (.const (.int .i64 4))⟩] [2])
    (.ret))
    (.skip)))
  (.seq (.seq (.ops [⟨(some 3), none, .mov (.const (.int .i64 0))⟩] [0, 3])
  (.block 0
    (.loop [0, 3]
      c15l0)))
  (.seq (.ops [⟨(some 2), none, .mov (.const (.int .i64 0))⟩] [2])
  (.ret)))),
  25, [(2, none)], true⟩
/- raddle/raddleref22.Cone -/
def c16 : AFun := ⟨
  .seq (.ops [⟨(some 6), none, .mov (.const (.int .i64 0))⟩] [0, 1, 2])
  (.seq (.seq (.ops [⟨(some 7), none, .mov (.tmp 2)⟩,
      ⟨(some 8), none, .mov (.tmp 7)⟩,
      ⟨(some 9), (some (8, true)), .mov (.tmp 0)⟩,
      ⟨(some 10), (some (8, true)), .mov (.tmp 1)⟩,
      ⟨(some 11), (some (8, true)), .bin .quo (.tmp 9) (.tmp 10)⟩,
      ⟨(some 12), (some (8, true)), .bin .rem (.tmp 11) (.const (.int .i64 2))⟩,
      ⟨(some 13), (some (8, true)), .bin .eql (.tmp 12) (.const (.int .i64 1))⟩,
      ⟨(some 14), none, .pick (.tmp 8) (.tmp 13) (.const (.bool false))⟩] [0, 1, 14])
  (.cond (.tmp 14)
    (.seq (.ops [⟨(some 15), none, .mov (.tmp 1)⟩,
        ⟨(some 16), none, .bin .sub (.tmp 15) (.const (.int .i64 1))⟩,
        ⟨(some 17), none, .mov (.tmp 0)⟩,
        ⟨(some 18), none, .mov (.tmp 1)⟩,
        ⟨(some 19), none, .bin .rem (.tmp 17) (.tmp 18)⟩,
        ⟨(some 20), none, .bin .sub (.tmp 16) (.tmp 19)⟩,
        ⟨(some 6), none, .mov (.tmp 20)⟩] [6])
    (.ret))
    (.skip)))
  (.seq (.ops [⟨(some 21), none, .mov (.tmp 0)⟩,
      ⟨(some 22), none, .mov (.tmp 1)⟩,
      ⟨(some 23), none, .bin .rem (.tmp 21) (.tmp 22)⟩,
      ⟨(some 6), none, .mov (.tmp 23)⟩] [6])
  (.ret))),
  24, [(6, none)], true⟩
/- slices.Equal[[]int,int] -/
def c17l0 : AC :=
  .seq (.ops [⟨(some 14), none, .bin .lss (.tmp 13) (.tmp 12)⟩] [0, 1, 12, 13, 14])
      (.seq (.cond (.tmp 14)
        (.skip)
        (.exit 0))
      (.seq (.block 1
        (.seq (.ops [⟨(some 15), none, .mov (.tmp 13)⟩,
            ⟨(some 5), none, .mov (.tmp 15)⟩] [0, 1, 5, 12, 13])
        (.seq (.draw [⟨(some 16), none, .mov (.tmp 0)⟩,
            ⟨(some 17), none, .mov (.tmp 5)⟩,
            ⟨(some 18), none, .idxS 1 (.tmp 16) (.tmp 17)⟩,
            ⟨(some 19), none, .load none (.tmp 18)⟩,
            ⟨(some 20), none, .mov (.tmp 1)⟩,
            ⟨(some 21), none, .mov (.tmp 5)⟩,
            ⟨(some 22), none, .idxS 1 (.tmp 20) (.tmp 21)⟩,
            ⟨(some 23), none, .load none (.tmp 22)⟩] [⟨(some 24), none, .bin .neq (.tmp 19) (.tmp 23)⟩] [[], [], [], [], [], [], [], []] [0, 1, 12, 13, 24])
        (.cond (.tmp 24)
          (.seq (.ops [⟨(some 4), none, .mov (.const (.bool false))⟩] [4])
          (.ret))
          (.skip)))))
      (.ops [⟨(some 25), none, .bin .add (.tmp 13) (.const (.int .i64 1))⟩,
          ⟨(some 13), none, .mov (.tmp 25)⟩] [0, 1, 12, 13])))
def c17 : AFun := ⟨
  .seq (.ops [⟨(some 4), none, .mov (.const (.bool false))⟩] [0, 1])
  (.seq (.seq (.ops [⟨(some 6), none, .mov (.tmp 0)⟩,
      ⟨(some 7), none, .len false (.tmp 6)⟩,
      ⟨(some 8), none, .mov (.tmp 1)⟩,
      ⟨(some 9), none, .len false (.tmp 8)⟩,
      ⟨(some 10), none, .bin .neq (.tmp 7) (.tmp 9)⟩] [0, 1, 10])
  (.cond (.tmp 10)
    (.seq (.ops [⟨(some 4), none, .mov (.const (.bool false))⟩] [4])
    (.ret))
    (.skip)))
  (.seq (.seq (.ops [⟨(some 11), none, .mov (.tmp 0)⟩,
      ⟨(some 12), none, .len false (.tmp 11)⟩,
      ⟨(some 13), none, .mov (.const (.int .i64 0))⟩] [0, 1, 12, 13])
  (.block 0
    (.loop [0, 1, 12, 13]
      c17l0)))
  (.seq (.ops [⟨(some 4), none, .mov (.const (.bool true))⟩] [4])
  (.ret)))),
  26, [(4, none)], true⟩
/- slices.Clone[[]int,int] -/
def c18 : AFun := ⟨
  .seq (.ops [⟨(some 2), none, .mov (.const (.slice none 0 0))⟩] [0])
  (.seq (.seq (.ops [⟨(some 3), none, .mov (.tmp 0)⟩,
      ⟨(some 4), none, .eqNil 1 false (.tmp 3) (.const (.slice none 0 0))⟩] [0, 4])
  (.cond (.tmp 4)
    (.seq (.ops [⟨(some 2), none, .mov (.const (.slice none 0 0))⟩] [2])
    (.ret))
    (.skip)))
  (.seq (.ops [⟨(some 5), none, .mkRow 3 1 0 [(.int .i64 0)] []⟩,
      ⟨(some 6), none, .mov (.tmp 0)⟩,
      ⟨(some 7), none, .app 3 1 8 (.tmp 5) (.tmp 6)⟩,
      ⟨(some 2), none, .mov (.tmp 7)⟩] [2])
  (.ret))),
  8, [(2, none)], true⟩
/- slices.ContainsFunc[[]int,int] -/
def c19 : AFun := ⟨
  .seq (.ops [⟨(some 4), none, .mov (.const (.bool false))⟩] [0, 1])
  (.seq (.ops [⟨(some 5), none, .mov (.tmp 0)⟩,
      ⟨(some 6), none, .mov (.tmp 1)⟩,
      ⟨(some 7), none, .callF 22 [(.tmp 5), (.tmp 6)]⟩,
      ⟨(some 8), none, .bin .geq (.tmp 7) (.const (.int .i64 0))⟩,
      ⟨(some 4), none, .mov (.tmp 8)⟩] [4])
  (.ret)),
  9, [(4, none)], true⟩
/- raddle/warp.Check$1 -/
def c20 : AFun := ⟨
  .seq (.ops [⟨(some 2), none, .mov (.const (.bool false))⟩] [0])
  (.seq (.ops [⟨(some 3), none, .mov (.tmp 0)⟩,
      ⟨(some 4), none, .callF 21 [(.tmp 3)]⟩,
      ⟨(some 5), none, .un .not (.tmp 4)⟩,
      ⟨(some 2), none, .mov (.tmp 5)⟩] [2])
  (.ret)),
  6, [(2, none)], true⟩
/- raddle/warp.colour -/
def c21 : AFun := ⟨
  .seq (.ops [⟨(some 2), none, .mov (.const (.bool false))⟩] [0])
  (.seq (.ops [⟨(some 3), none, .mov (.tmp 0)⟩,
      ⟨(some 4), none, .bin .geq (.tmp 3) (.const (.int .i64 0))⟩,
      ⟨(some 5), none, .mov (.tmp 4)⟩,
      ⟨(some 6), (some (5, true)), .mov (.tmp 0)⟩,
      ⟨(some 7), (some (5, true)), .bin .leq (.tmp 6) (.const (.int .i64 15))⟩,
      ⟨(some 8), none, .pick (.tmp 5) (.tmp 7) (.const (.bool false))⟩,
      ⟨(some 2), none, .mov (.tmp 8)⟩] [2])
  (.ret)),
  9, [(2, none)], true⟩
/- slices.IndexFunc[[]int,int] -/
def c22l0 : AC :=
  .seq (.ops [⟨(some 9), none, .bin .lss (.tmp 8) (.tmp 7)⟩] [0, 1, 7, 8, 9])
      (.seq (.cond (.tmp 9)
        (.skip)
        (.exit 0))
      (.seq (.block 1
        (.seq (.ops [⟨(some 10), none, .mov (.tmp 8)⟩,
            ⟨(some 5), none, .mov (.tmp 10)⟩] [0, 1, 5, 7, 8])
        (.seq (.ops [⟨(some 11), none, .mov (.tmp 1)⟩,
            ⟨(some 12), none, .mov (.tmp 0)⟩,
            ⟨(some 13), none, .mov (.tmp 5)⟩,
            ⟨(some 14), none, .idxS 1 (.tmp 12) (.tmp 13)⟩,
            ⟨(some 15), none, .load none (.tmp 14)⟩,
            ⟨(some 16), none, .callV (.tmp 11) [(.tmp 15)]⟩] [0, 1, 5, 7, 8, 16])
        (.cond (.tmp 16)
          (.seq (.ops [⟨(some 17), none, .mov (.tmp 5)⟩,
              ⟨(some 4), none, .mov (.tmp 17)⟩] [4])
          (.ret))
          (.skip)))))
      (.ops [⟨(some 18), none, .bin .add (.tmp 8) (.const (.int .i64 1))⟩,
          ⟨(some 8), none, .mov (.tmp 18)⟩] [0, 1, 7, 8])))
def c22 : AFun := ⟨
  .seq (.ops [⟨(some 4), none, .mov (.const (.int .i64 0))⟩] [0, 1])
  (.seq (.seq (.ops [⟨(some 6), none, .mov (.tmp 0)⟩,
      ⟨(some 7), none, .len false (.tmp 6)⟩,
      ⟨(some 8), none, .mov (.const (.int .i64 0))⟩] [0, 1, 7, 8])
  (.block 0
    (.loop [0, 1, 7, 8]
      c22l0)))
  (.seq (.ops [⟨(some 4), none, .mov (.const (.int .i64 (-1)))⟩] [4])
  (.ret))),
  19, [(4, none)], true⟩
/- (raddle/warp.turning).pass -/
def c39 : AFun := ⟨
  .seq (.ops [⟨(some 3), none, .box 45 (.tmp 0)⟩,
      ⟨(some 6), none, .mov (.const (.slice none 0 0))⟩] [1, 2])
  (.seq (.seq (.ops [⟨(some 8), none, .mov (.tmp 2)⟩,
      ⟨(some 9), none, .bin .rem (.tmp 8) (.const (.int .i64 2))⟩,
      ⟨(some 10), none, .bin .eql (.tmp 9) (.const (.int .i64 0))⟩] [1, 10])
  (.cond (.tmp 10)
    (.seq (.ops [⟨(some 11), none, .mov (.tmp 1)⟩,
        ⟨(some 6), none, .mov (.tmp 11)⟩] [6])
    (.ret))
    (.skip)))
  (.seq (.ops [⟨(some 12), none, .mov (.tmp 1)⟩,
      ⟨(some 13), none, .callF 18 [(.tmp 12)]⟩,
      ⟨(some 7), none, .mov (.tmp 13)⟩] [7])
  (.seq (.ops [⟨(some 14), none, .mov (.tmp 7)⟩,
      ⟨(some 15), none, .callF 40 [(.tmp 14)]⟩] [7])
  (.seq (.ops [⟨(some 16), none, .mov (.tmp 7)⟩,
      ⟨(some 6), none, .mov (.tmp 16)⟩] [6])
  (.ret))))),
  17, [(6, none)], true⟩
/- slices.Reverse[[]int,int] -/
def c40l0 : AC :=
  .seq (.seq (.ops [⟨(some 7), none, .mov (.tmp 2)⟩,
          ⟨(some 8), none, .mov (.tmp 3)⟩,
          ⟨(some 9), none, .bin .lss (.tmp 7) (.tmp 8)⟩] [0, 2, 3, 9])
      (.cond (.tmp 9)
        (.skip)
        (.exit 0)))
      (.seq (.block 1
        (.drawW [⟨⟨(some 14), none, .mov (.tmp 0)⟩, [], none⟩,
            ⟨⟨(some 15), none, .mov (.tmp 2)⟩, [0], none⟩,
            ⟨⟨(some 16), none, .mov (.tmp 0)⟩, [0, 1], none⟩,
            ⟨⟨(some 17), none, .mov (.tmp 3)⟩, [0, 1, 2], none⟩,
            ⟨⟨(some 18), none, .mov (.tmp 0)⟩, [0, 1, 2, 3], none⟩,
            ⟨⟨(some 19), none, .mov (.tmp 3)⟩, [0, 1, 2, 3, 4], none⟩,
            ⟨⟨(some 20), none, .idxS 1 (.tmp 18) (.tmp 19)⟩, [0, 1, 2, 3], none⟩,
            ⟨⟨(some 21), none, .load none (.tmp 20)⟩, [0, 1, 2, 3], none⟩,
            ⟨⟨(some 22), none, .mov (.tmp 0)⟩, [0, 1, 2, 3, 4, 5, 6, 7], none⟩,
            ⟨⟨(some 23), none, .mov (.tmp 2)⟩, [0, 1, 2, 3, 4, 5, 6, 7, 8], none⟩,
            ⟨⟨(some 24), none, .idxS 1 (.tmp 22) (.tmp 23)⟩, [0, 1, 2, 3, 4, 5, 6, 7], none⟩,
            ⟨⟨(some 25), none, .load none (.tmp 24)⟩, [0, 1, 2, 3, 4, 5, 6, 7], none⟩,
            ⟨⟨(some 26), none, .idxS 1 (.tmp 14) (.tmp 15)⟩, [2, 3], none⟩,
            ⟨⟨none, none, .store 1 (.tmp 26) (.tmp 21)⟩, [2, 3], none⟩] [⟨(some 27), none, .idxS 1 (.tmp 16) (.tmp 17)⟩,
            ⟨none, none, .store 1 (.tmp 27) (.tmp 25)⟩] [0, 2, 3]))
      (.ops [⟨(some 10), none, .mov (.tmp 2)⟩,
          ⟨(some 11), none, .bin .add (.tmp 10) (.const (.int .i64 1))⟩,
          ⟨(some 12), none, .mov (.tmp 3)⟩,
          ⟨(some 13), none, .bin .sub (.tmp 12) (.const (.int .i64 1))⟩,
          ⟨(some 2), none, .mov (.tmp 11)⟩,
          ⟨(some 3), none, .mov (.tmp 13)⟩] [0, 2, 3]))
def c40 : AFun := ⟨
  .seq (.ops [⟨(some 4), none, .mov (.tmp 0)⟩,
      ⟨(some 5), none, .len false (.tmp 4)⟩,
      ⟨(some 6), none, .bin .sub (.tmp 5) (.const (.int .i64 1))⟩,
      ⟨(some 2), none, .mov (.const (.int .i64 0))⟩,
      ⟨(some 3), none, .mov (.tmp 6)⟩] [0, 2, 3])
  (.block 0
    (.loop [0, 2, 3]
      c40l0)),
  28, [], false⟩
/- (raddle/warp.straight).pass -/
def c41 : AFun := ⟨
  .seq (.ops [⟨(some 3), none, .box 46 (.tmp 0)⟩,
      ⟨(some 6), none, .mov (.const (.slice none 0 0))⟩] [1])
  (.seq (.ops [⟨(some 7), none, .mov (.tmp 1)⟩,
      ⟨(some 6), none, .mov (.tmp 7)⟩] [6])
  (.ret)),
  8, [(6, none)], true⟩
theorem ok3 : FunOK Try.prog 3 c3 := ⟨⟨Try.f3, _, c3.code, Try.func3, rfl, by kernel_rfl, rfl, by kernel_rfl, by kernel_rfl⟩⟩
theorem ok4 : FunOK Try.prog 4 c4 := ⟨⟨Try.f4, _, c4.code, Try.func4, rfl, by kernel_rfl, rfl, by kernel_rfl, by kernel_rfl⟩⟩
theorem ok5 : FunOK Try.prog 5 c5 := ⟨⟨Try.f5, _, c5.code, Try.func5, rfl, by kernel_rfl, rfl, by kernel_rfl, by kernel_rfl⟩⟩
theorem ok6 : FunOK Try.prog 6 c6 := ⟨⟨Try.f6, _, c6.code, Try.func6, rfl, by kernel_rfl, rfl, by kernel_rfl, by kernel_rfl⟩⟩
theorem ok7 : FunOK Try.prog 7 c7 := ⟨⟨Try.f7, _, c7.code, Try.func7, rfl, by kernel_rfl, rfl, by kernel_rfl, by kernel_rfl⟩⟩
theorem ok8 : FunOK Try.prog 8 c8 := ⟨⟨Try.f8, _, c8.code, Try.func8, rfl, by kernel_rfl, rfl, by kernel_rfl, by kernel_rfl⟩⟩
theorem ok9 : FunOK Try.prog 9 c9 := ⟨⟨Try.f9, _, c9.code, Try.func9, rfl, by kernel_rfl, rfl, by kernel_rfl, by kernel_rfl⟩⟩
theorem ok10 : FunOK Try.prog 10 c10 := ⟨⟨Try.f10, _, c10.code, Try.func10, rfl, by kernel_rfl, rfl, by kernel_rfl, by kernel_rfl⟩⟩
theorem ok11 : FunOK Try.prog 11 c11 := ⟨⟨Try.f11, _, c11.code, Try.func11, rfl, by kernel_rfl, rfl, by kernel_rfl, by kernel_rfl⟩⟩
theorem ok12 : FunOK Try.prog 12 c12 := ⟨⟨Try.f12, _, c12.code, Try.func12, rfl, by kernel_rfl, rfl, by kernel_rfl, by kernel_rfl⟩⟩
theorem ok13 : FunOK Try.prog 13 c13 := ⟨⟨Try.f13, _, c13.code, Try.func13, rfl, by kernel_rfl, rfl, by kernel_rfl, by kernel_rfl⟩⟩
theorem ok14 : FunOK Try.prog 14 c14 := ⟨⟨Try.f14, _, c14.code, Try.func14, rfl, by kernel_rfl, rfl, by kernel_rfl, by kernel_rfl⟩⟩
theorem ok15 : FunOK Try.prog 15 c15 := ⟨⟨Try.f15, _, c15.code, Try.func15, rfl, by kernel_rfl, rfl, by kernel_rfl, by kernel_rfl⟩⟩
theorem ok16 : FunOK Try.prog 16 c16 := ⟨⟨Try.f16, _, c16.code, Try.func16, rfl, by kernel_rfl, rfl, by kernel_rfl, by kernel_rfl⟩⟩
theorem ok17 : FunOK Try.prog 17 c17 := ⟨⟨Try.f17, _, c17.code, Try.func17, rfl, by kernel_rfl, rfl, by kernel_rfl, by kernel_rfl⟩⟩
theorem ok18 : FunOK Try.prog 18 c18 := ⟨⟨Try.f18, _, c18.code, Try.func18, rfl, by kernel_rfl, rfl, by kernel_rfl, by kernel_rfl⟩⟩
theorem ok19 : FunOK Try.prog 19 c19 := ⟨⟨Try.f19, _, c19.code, Try.func19, rfl, by kernel_rfl, rfl, by kernel_rfl, by kernel_rfl⟩⟩
theorem ok20 : FunOK Try.prog 20 c20 := ⟨⟨Try.f20, _, c20.code, Try.func20, rfl, by kernel_rfl, rfl, by kernel_rfl, by kernel_rfl⟩⟩
theorem ok21 : FunOK Try.prog 21 c21 := ⟨⟨Try.f21, _, c21.code, Try.func21, rfl, by kernel_rfl, rfl, by kernel_rfl, by kernel_rfl⟩⟩
theorem ok22 : FunOK Try.prog 22 c22 := ⟨⟨Try.f22, _, c22.code, Try.func22, rfl, by kernel_rfl, rfl, by kernel_rfl, by kernel_rfl⟩⟩
theorem ok39 : FunOK Try.prog 39 c39 := ⟨⟨Try.f39, _, c39.code, Try.func39, rfl, by kernel_rfl, rfl, by kernel_rfl, by kernel_rfl⟩⟩
theorem ok40 : FunOK Try.prog 40 c40 := ⟨⟨Try.f40, _, c40.code, Try.func40, rfl, by kernel_rfl, rfl, by kernel_rfl, by kernel_rfl⟩⟩
theorem ok41 : FunOK Try.prog 41 c41 := ⟨⟨Try.f41, _, c41.code, Try.func41, rfl, by kernel_rfl, rfl, by kernel_rfl, by kernel_rfl⟩⟩
def fns : FuncId → Option AFun
  | 3 => some c3
  | 4 => some c4
  | 5 => some c5
  | 6 => some c6
  | 7 => some c7
  | 8 => some c8
  | 9 => some c9
  | 10 => some c10
  | 11 => some c11
  | 12 => some c12
  | 13 => some c13
  | 14 => some c14
  | 15 => some c15
  | 16 => some c16
  | 17 => some c17
  | 18 => some c18
  | 19 => some c19
  | 20 => some c20
  | 21 => some c21
  | 22 => some c22
  | 39 => some c39
  | 40 => some c40
  | 41 => some c41
  | _ => none
theorem fns_ok : FunsOK Try.prog fns := by
  intro f af h
  unfold fns at h
  split at h
  · cases h; exact ok3
  · cases h; exact ok4
  · cases h; exact ok5
  · cases h; exact ok6
  · cases h; exact ok7
  · cases h; exact ok8
  · cases h; exact ok9
  · cases h; exact ok10
  · cases h; exact ok11
  · cases h; exact ok12
  · cases h; exact ok13
  · cases h; exact ok14
  · cases h; exact ok15
  · cases h; exact ok16
  · cases h; exact ok17
  · cases h; exact ok18
  · cases h; exact ok19
  · cases h; exact ok20
  · cases h; exact ok21
  · cases h; exact ok22
  · cases h; exact ok39
  · cases h; exact ok40
  · cases h; exact ok41
  · cases h
end Go.Proofs.Ytgglaaldlegckaa
namespace Go.Proofs.Ytgglaaldlegckaa
open Go Go.Itp
set_option maxRecDepth 100000
set_option maxHeartbeats 1000000
set_option linter.unusedSimpArgs false
abbrev EN (w : World) (n : Nat) : Env := callP (oldOf w) many fns (fun _ _ _ => none) n
def iD (x : Int) : D := .sc (.int .i64 x)
theorem iD_dv (x : Int) : dv (iD x) = .sc (.int .i64 x) := (rfl)
def col (x : Int) : Bool := decide (0 ≤ x) && decide (x ≤ 15)
def chk (l : List Int) : Int := if 4000 < l.length then 4 else if l.all col then 0 else 8
def fb (l : List Int) : Int := if l.all col then -1 else (l.findIdx (fun x => !col x) : Nat)
theorem fb_at {l : List Int} {k : Nat} (hk : k < l.length) (h : ∀ j, j < k → col l[j]! = true) (h2 : col l[k]! = false) : fb l = k := by
  unfold fb
  rw [getElem!_pos l k hk] at h2
  rw [if_neg (fun h => by rw [List.all_eq_true] at h; have := h _ (List.getElem_mem hk); rw [h2] at this; cases this)]
  congr 1
  rw [List.findIdx_eq hk]
  refine ⟨by simp [h2], fun j hj => ?_⟩
  have := h j hj
  rw [getElem!_pos l j (by omega)] at this
  simp [this]
theorem fb_end {l : List Int} (h : ∀ j, j < l.length → col l[j]! = true) : fb l = -1 ∧ l.all col = true := by
  have : l.all col = true := by
    rw [List.all_eq_true]
    intro x hx
    obtain ⟨j, hj, rfl⟩ := List.getElem_of_mem hx
    have := h j hj
    rwa [getElem!_pos l j hj] at this
  exact ⟨if_pos this, this⟩
theorem all_at {l : List Int} {k : Nat} (hk : k < l.length) (h2 : col l[k]! = false) : l.all col = false := by
  rw [← Bool.not_eq_true, List.all_eq_true]
  intro h
  rw [getElem!_pos l k hk] at h2
  rw [h _ (List.getElem_mem hk)] at h2
  cases h2
section
variable (w : World) (n : Nat)
theorem colour_p (x : Int) : VSpec (EN w (n + 1)) 21 [.sc (.int .i64 x)] (.sc (.bool (col x))) ⟨[], 0, 0⟩ := by
  refine vspec_flat rfl rfl (fun _ _ => rfl) (Nat.le_of_ble_eq_true rfl) (oldVals w) rfl fun C hC h0 => ?_
  by_cases h1 : 0 ≤ x <;> by_cases h2 : x ≤ 15
  all_goals
    have e : col x = (decide (0 ≤ x) && decide (x ≤ 15)) := rfl
    simp only [h1, h2, decide_true, decide_false, Bool.and_true, Bool.and_false, Bool.true_and, Bool.false_and] at e
    rw [e]
    repeat' (first | (simp (disch := first | omega | assumption | (refine @id ((_ : Bool) = _) ?_; exact id (by with_unfolding_all rfl)) | (exact Or.inl rfl) | (exact Or.inl trivial) | (exact okL_map _ (fun _ => rfl) _) | (simp only [List.length_map, List.length_set, List.length_replicate, List.length_cons, List.length_nil, List.length_append] <;> omega) | fail) only [VV0, VV1, VV2, VV3, VV4, VV5, VV6, VV7, mkFnV, vargs, slotsL, opdsA, not_true_eq_false, not_false_eq_true, decide_true, decide_false, Option.map_some, Option.bind_some, List.cons_append, List.nil_append, List.map_cons, List.map_nil, List.append_nil, Option.toList_some, Option.toList_none, Nat.reduceEqDiff, Nat.reduceLT, Nat.reduceAdd, Nat.reduceBEq, Int.reduceAdd, Int.reduceSub, Int.reduceLT, Int.reduceLE, Int.reduceEq, Int.reduceNeg, ↓reduceIte, if_true, if_false, Bool.false_eq_true, Bool.not_true, Bool.not_false, List.length_cons, List.length_nil, List.length_singleton, reduceCtorEq, Int.toNat_natCast, Nat.zero_add, Nat.add_zero, Nat.mul_one, Int.add_sub_cancel, eq_self, List.drop_zero, List.drop_succ_cons, Option.some.injEq, Prod.mk.injEq, Bool.and_true, Bool.true_and, Bool.and_self, true_or, List.set_cons_zero, List.set_cons_succ, scL, scD, expand, List.replicate, c21]) | (refine gC_drawW ?_) | (refine gI_dec (fun _ => ?_) (fun _ => ?_)) | (refine gG_dec (fun _ => ?_) (fun _ => ?_)) | (refine gPG_dec (fun _ => ?_) (fun _ => ?_)) | (refine gI_var (fun _ => ?_) (fun _ => ?_)) | (refine gG_var (fun _ => ?_) (fun _ => ?_)) | (refine gPG_var (fun _ => ?_) (fun _ => ?_)))
    first | (exfalso; omega) | exact weak_flat rfl h0 rfl
theorem check1_p (x : Int) : VSpec (EN w (n + 2)) 20 [.sc (.int .i64 x)] (.sc (.bool (!col x))) ⟨[], 0, 0⟩ := by
  refine vspec_flat rfl rfl (fun _ _ => rfl) (Nat.le_of_ble_eq_true rfl) (oldVals w) rfl fun C hC h0 => ?_
  repeat' (first | (simp (disch := first | omega | assumption | (refine @id ((_ : Bool) = _) ?_; exact id (by with_unfolding_all rfl)) | (exact Or.inl rfl) | (exact Or.inl trivial) | (exact okL_map _ (fun _ => rfl) _) | (simp only [List.length_map, List.length_set, List.length_replicate, List.length_cons, List.length_nil, List.length_append] <;> omega) | fail) only [VV0, VV1, VV2, VV3, VV4, VV5, VV6, VV7, mkFnV, vargs, slotsL, opdsA, not_true_eq_false, not_false_eq_true, decide_true, decide_false, Option.map_some, Option.bind_some, List.cons_append, List.nil_append, List.map_cons, List.map_nil, List.append_nil, Option.toList_some, Option.toList_none, Nat.reduceEqDiff, Nat.reduceLT, Nat.reduceAdd, Nat.reduceBEq, Int.reduceAdd, Int.reduceSub, Int.reduceLT, Int.reduceLE, Int.reduceEq, Int.reduceNeg, ↓reduceIte, if_true, if_false, Bool.false_eq_true, Bool.not_true, Bool.not_false, List.length_cons, List.length_nil, List.length_singleton, reduceCtorEq, Int.toNat_natCast, Nat.zero_add, Nat.add_zero, Nat.mul_one, Int.add_sub_cancel, eq_self, List.drop_zero, List.drop_succ_cons, Option.some.injEq, Prod.mk.injEq, Bool.and_true, Bool.true_and, Bool.and_self, true_or, List.set_cons_zero, List.set_cons_succ, scL, scD, expand, List.replicate, c20]) | (refine gC_drawW ?_) | (refine gI_dec (fun _ => ?_) (fun _ => ?_)) | (refine gG_dec (fun _ => ?_) (fun _ => ?_)) | (refine gPG_dec (fun _ => ?_) (fun _ => ?_)) | (refine gI_var (fun _ => ?_) (fun _ => ?_)) | (refine gG_var (fun _ => ?_) (fun _ => ?_)) | (refine gPG_var (fun _ => ?_) (fun _ => ?_)))
  refine callV_flat ((fun st => (colour_p w n x).of hC rfl st rfl) _) ?_
  repeat' (first | (simp (disch := first | omega | assumption | (refine @id ((_ : Bool) = _) ?_; exact id (by with_unfolding_all rfl)) | (exact Or.inl rfl) | (exact Or.inl trivial) | (exact okL_map _ (fun _ => rfl) _) | (simp only [List.length_map, List.length_set, List.length_replicate, List.length_cons, List.length_nil, List.length_append] <;> omega) | fail) only [VV0, VV1, VV2, VV3, VV4, VV5, VV6, VV7, mkFnV, vargs, slotsL, opdsA, not_true_eq_false, not_false_eq_true, decide_true, decide_false, Option.map_some, Option.bind_some, List.cons_append, List.nil_append, List.map_cons, List.map_nil, List.append_nil, Option.toList_some, Option.toList_none, Nat.reduceEqDiff, Nat.reduceLT, Nat.reduceAdd, Nat.reduceBEq, Int.reduceAdd, Int.reduceSub, Int.reduceLT, Int.reduceLE, Int.reduceEq, Int.reduceNeg, ↓reduceIte, if_true, if_false, Bool.false_eq_true, Bool.not_true, Bool.not_false, List.length_cons, List.length_nil, List.length_singleton, reduceCtorEq, Int.toNat_natCast, Nat.zero_add, Nat.add_zero, Nat.mul_one, Int.add_sub_cancel, eq_self, List.drop_zero, List.drop_succ_cons, Option.some.injEq, Prod.mk.injEq, Bool.and_true, Bool.true_and, Bool.and_self, true_or, List.set_cons_zero, List.set_cons_succ, scL, scD, expand, List.replicate]) | (refine gC_drawW ?_) | (refine gI_dec (fun _ => ?_) (fun _ => ?_)) | (refine gG_dec (fun _ => ?_) (fun _ => ?_)) | (refine gPG_dec (fun _ => ?_) (fun _ => ?_)) | (refine gI_var (fun _ => ?_) (fun _ => ?_)) | (refine gG_var (fun _ => ?_) (fun _ => ?_)) | (refine gPG_var (fun _ => ?_) (fun _ => ?_)))
  exact weak_flat rfl h0 rfl
theorem indexFunc_p (s : Nat) (l : List Int) (hl : l.length ≤ 140737488351232) : VSpec (EN w (n + 3)) 22 [.sl s l.length (l.map iD), .sc (.func (.func 20) #[] #[])] (.sc (.int .i64 (fb l))) ⟨[], 0, 0⟩ := by
  refine vspec_flat rfl rfl (fun _ _ => rfl) (Nat.le_of_ble_eq_true rfl) (oldVals w) rfl fun C hC h0 => ?_
  simp (disch := first | omega | assumption | (refine @id ((_ : Bool) = _) ?_; exact id (by with_unfolding_all rfl)) | (exact Or.inl rfl) | (exact Or.inl trivial) | (exact okL_map _ (fun _ => rfl) _) | (simp only [List.length_map, List.length_set, List.length_replicate, List.length_cons, List.length_nil, List.length_append] <;> omega) | fail) only [VV0, VV1, VV2, VV3, VV4, VV5, VV6, VV7, mkFnV, vargs, slotsL, opdsA, not_true_eq_false, not_false_eq_true, decide_true, decide_false, Option.map_some, Option.bind_some, List.cons_append, List.nil_append, List.map_cons, List.map_nil, List.append_nil, Option.toList_some, Option.toList_none, Nat.reduceEqDiff, Nat.reduceLT, Nat.reduceAdd, Nat.reduceBEq, Int.reduceAdd, Int.reduceSub, Int.reduceLT, Int.reduceLE, Int.reduceEq, Int.reduceNeg, ↓reduceIte, if_true, if_false, Bool.false_eq_true, Bool.not_true, Bool.not_false, List.length_cons, List.length_nil, List.length_singleton, reduceCtorEq, Int.toNat_natCast, Nat.zero_add, Nat.add_zero, Nat.mul_one, Int.add_sub_cancel, eq_self, List.drop_zero, List.drop_succ_cons, Option.some.injEq, Prod.mk.injEq, Bool.and_true, Bool.true_and, Bool.and_self, true_or, List.set_cons_zero, List.set_cons_succ, scL, scD, expand, List.replicate, c22]
  refine g_while (fun m fr st => ∃ k : Nat, m = l.length - k ∧ k ≤ l.length ∧ (∀ j, j < k → col l[j]! = true) ∧ fr = [(0, .sl s l.length (l.map iD)), (1, .sc (.func (.func 20) #[] #[])), (7, .sc (.int .i64 l.length)), (8, .sc (.int .i64 k))] ∧ st = ⟨[], 0, 0⟩) l.length ?_ ⟨_, _, .refl _ _, 0, ?_⟩ ?_
  · rw [hC, callP_rounds]; unfold many; omega
  · exact ⟨by omega, by omega, (fun j hj => absurd hj (Nat.not_lt_zero _)), rfl, rfl⟩
  · rintro m fr st ⟨k, rfl, hk, ha, rfl, rfl⟩
    by_cases hlt : k < l.length
    · repeat' (first | (simp (disch := first | omega | assumption | (refine @id ((_ : Bool) = _) ?_; exact id (by with_unfolding_all rfl)) | (exact Or.inl rfl) | (exact Or.inl trivial) | (exact okL_map _ (fun _ => rfl) _) | (simp only [List.length_map, List.length_set, List.length_replicate, List.length_cons, List.length_nil, List.length_append] <;> omega) | fail) only [VV0, VV1, VV2, VV3, VV4, VV5, VV6, VV7, mkFnV, vargs, slotsL, opdsA, not_true_eq_false, not_false_eq_true, decide_true, decide_false, Option.map_some, Option.bind_some, List.cons_append, List.nil_append, List.map_cons, List.map_nil, List.append_nil, Option.toList_some, Option.toList_none, Nat.reduceEqDiff, Nat.reduceLT, Nat.reduceAdd, Nat.reduceBEq, Int.reduceAdd, Int.reduceSub, Int.reduceLT, Int.reduceLE, Int.reduceEq, Int.reduceNeg, ↓reduceIte, if_true, if_false, Bool.false_eq_true, Bool.not_true, Bool.not_false, List.length_cons, List.length_nil, List.length_singleton, reduceCtorEq, Int.toNat_natCast, Nat.zero_add, Nat.add_zero, Nat.mul_one, Int.add_sub_cancel, eq_self, List.drop_zero, List.drop_succ_cons, Option.some.injEq, Prod.mk.injEq, Bool.and_true, Bool.true_and, Bool.and_self, true_or, List.set_cons_zero, List.set_cons_succ, scL, scD, expand, List.replicate, c22l0, iD_dv]) | (refine gC_drawW ?_) | (refine gI_dec (fun _ => ?_) (fun _ => ?_)) | (refine gG_dec (fun _ => ?_) (fun _ => ?_)) | (refine gPG_dec (fun _ => ?_) (fun _ => ?_)) | (refine gI_var (fun _ => ?_) (fun _ => ?_)) | (refine gG_var (fun _ => ?_) (fun _ => ?_)) | (refine gPG_var (fun _ => ?_) (fun _ => ?_)))
      refine callV_flat ((fun st => (check1_p w n l[k]!).of hC rfl st rfl) _) ?_
      cases hc : col l[k]!
      · have := fb_at hlt ha hc
        rw [this]
        repeat' (first | (simp (disch := first | omega | assumption | (refine @id ((_ : Bool) = _) ?_; exact id (by with_unfolding_all rfl)) | (exact Or.inl rfl) | (exact Or.inl trivial) | (exact okL_map _ (fun _ => rfl) _) | (simp only [List.length_map, List.length_set, List.length_replicate, List.length_cons, List.length_nil, List.length_append] <;> omega) | fail) only [VV0, VV1, VV2, VV3, VV4, VV5, VV6, VV7, mkFnV, vargs, slotsL, opdsA, not_true_eq_false, not_false_eq_true, decide_true, decide_false, Option.map_some, Option.bind_some, List.cons_append, List.nil_append, List.map_cons, List.map_nil, List.append_nil, Option.toList_some, Option.toList_none, Nat.reduceEqDiff, Nat.reduceLT, Nat.reduceAdd, Nat.reduceBEq, Int.reduceAdd, Int.reduceSub, Int.reduceLT, Int.reduceLE, Int.reduceEq, Int.reduceNeg, ↓reduceIte, if_true, if_false, Bool.false_eq_true, Bool.not_true, Bool.not_false, List.length_cons, List.length_nil, List.length_singleton, reduceCtorEq, Int.toNat_natCast, Nat.zero_add, Nat.add_zero, Nat.mul_one, Int.add_sub_cancel, eq_self, List.drop_zero, List.drop_succ_cons, Option.some.injEq, Prod.mk.injEq, Bool.and_true, Bool.true_and, Bool.and_self, true_or, List.set_cons_zero, List.set_cons_succ, scL, scD, expand, List.replicate]) | (refine gC_drawW ?_) | (refine gI_dec (fun _ => ?_) (fun _ => ?_)) | (refine gG_dec (fun _ => ?_) (fun _ => ?_)) | (refine gPG_dec (fun _ => ?_) (fun _ => ?_)) | (refine gI_var (fun _ => ?_) (fun _ => ?_)) | (refine gG_var (fun _ => ?_) (fun _ => ?_)) | (refine gPG_var (fun _ => ?_) (fun _ => ?_)))
        exact weak_flat rfl h0 rfl
      · repeat' (first | (simp (disch := first | omega | assumption | (refine @id ((_ : Bool) = _) ?_; exact id (by with_unfolding_all rfl)) | (exact Or.inl rfl) | (exact Or.inl trivial) | (exact okL_map _ (fun _ => rfl) _) | (simp only [List.length_map, List.length_set, List.length_replicate, List.length_cons, List.length_nil, List.length_append] <;> omega) | fail) only [VV0, VV1, VV2, VV3, VV4, VV5, VV6, VV7, mkFnV, vargs, slotsL, opdsA, not_true_eq_false, not_false_eq_true, decide_true, decide_false, Option.map_some, Option.bind_some, List.cons_append, List.nil_append, List.map_cons, List.map_nil, List.append_nil, Option.toList_some, Option.toList_none, Nat.reduceEqDiff, Nat.reduceLT, Nat.reduceAdd, Nat.reduceBEq, Int.reduceAdd, Int.reduceSub, Int.reduceLT, Int.reduceLE, Int.reduceEq, Int.reduceNeg, ↓reduceIte, if_true, if_false, Bool.false_eq_true, Bool.not_true, Bool.not_false, List.length_cons, List.length_nil, List.length_singleton, reduceCtorEq, Int.toNat_natCast, Nat.zero_add, Nat.add_zero, Nat.mul_one, Int.add_sub_cancel, eq_self, List.drop_zero, List.drop_succ_cons, Option.some.injEq, Prod.mk.injEq, Bool.and_true, Bool.true_and, Bool.and_self, true_or, List.set_cons_zero, List.set_cons_succ, scL, scD, expand, List.replicate]) | (refine gC_drawW ?_) | (refine gI_dec (fun _ => ?_) (fun _ => ?_)) | (refine gG_dec (fun _ => ?_) (fun _ => ?_)) | (refine gPG_dec (fun _ => ?_) (fun _ => ?_)) | (refine gI_var (fun _ => ?_) (fun _ => ?_)) | (refine gG_var (fun _ => ?_) (fun _ => ?_)) | (refine gPG_var (fun _ => ?_) (fun _ => ?_)))
        exact ⟨_, _, _, by omega, .refl _ _, k + 1, rfl, hlt, (fun j hj => by rcases Nat.lt_succ_iff_lt_or_eq.1 hj with h | h; exact ha j h; subst h; exact hc), rfl, rfl⟩
    · have : k = l.length := by omega
      subst this
      rw [(fb_end ha).1]
      repeat' (first | (simp (disch := first | omega | assumption | (refine @id ((_ : Bool) = _) ?_; exact id (by with_unfolding_all rfl)) | (exact Or.inl rfl) | (exact Or.inl trivial) | (exact okL_map _ (fun _ => rfl) _) | (simp only [List.length_map, List.length_set, List.length_replicate, List.length_cons, List.length_nil, List.length_append] <;> omega) | fail) only [VV0, VV1, VV2, VV3, VV4, VV5, VV6, VV7, mkFnV, vargs, slotsL, opdsA, not_true_eq_false, not_false_eq_true, decide_true, decide_false, Option.map_some, Option.bind_some, List.cons_append, List.nil_append, List.map_cons, List.map_nil, List.append_nil, Option.toList_some, Option.toList_none, Nat.reduceEqDiff, Nat.reduceLT, Nat.reduceAdd, Nat.reduceBEq, Int.reduceAdd, Int.reduceSub, Int.reduceLT, Int.reduceLE, Int.reduceEq, Int.reduceNeg, ↓reduceIte, if_true, if_false, Bool.false_eq_true, Bool.not_true, Bool.not_false, List.length_cons, List.length_nil, List.length_singleton, reduceCtorEq, Int.toNat_natCast, Nat.zero_add, Nat.add_zero, Nat.mul_one, Int.add_sub_cancel, eq_self, List.drop_zero, List.drop_succ_cons, Option.some.injEq, Prod.mk.injEq, Bool.and_true, Bool.true_and, Bool.and_self, true_or, List.set_cons_zero, List.set_cons_succ, scL, scD, expand, List.replicate, c22l0, iD_dv]) | (refine gC_drawW ?_) | (refine gI_dec (fun _ => ?_) (fun _ => ?_)) | (refine gG_dec (fun _ => ?_) (fun _ => ?_)) | (refine gPG_dec (fun _ => ?_) (fun _ => ?_)) | (refine gI_var (fun _ => ?_) (fun _ => ?_)) | (refine gG_var (fun _ => ?_) (fun _ => ?_)) | (refine gPG_var (fun _ => ?_) (fun _ => ?_)))
      exact weak_flat rfl h0 rfl
theorem contains_p (s : Nat) (l : List Int) (hl : l.length ≤ 140737488351232) : VSpec (EN w (n + 4)) 19 [.sl s l.length (l.map iD), .sc (.func (.func 20) #[] #[])] (.sc (.bool (!l.all col))) ⟨[], 0, 0⟩ := by
  refine vspec_flat rfl rfl (fun _ _ => rfl) (Nat.le_of_ble_eq_true rfl) (oldVals w) rfl fun C hC h0 => ?_
  repeat' (first | (simp (disch := first | omega | assumption | (refine @id ((_ : Bool) = _) ?_; exact id (by with_unfolding_all rfl)) | (exact Or.inl rfl) | (exact Or.inl trivial) | (exact okL_map _ (fun _ => rfl) _) | (simp only [List.length_map, List.length_set, List.length_replicate, List.length_cons, List.length_nil, List.length_append] <;> omega) | fail) only [VV0, VV1, VV2, VV3, VV4, VV5, VV6, VV7, mkFnV, vargs, slotsL, opdsA, not_true_eq_false, not_false_eq_true, decide_true, decide_false, Option.map_some, Option.bind_some, List.cons_append, List.nil_append, List.map_cons, List.map_nil, List.append_nil, Option.toList_some, Option.toList_none, Nat.reduceEqDiff, Nat.reduceLT, Nat.reduceAdd, Nat.reduceBEq, Int.reduceAdd, Int.reduceSub, Int.reduceLT, Int.reduceLE, Int.reduceEq, Int.reduceNeg, ↓reduceIte, if_true, if_false, Bool.false_eq_true, Bool.not_true, Bool.not_false, List.length_cons, List.length_nil, List.length_singleton, reduceCtorEq, Int.toNat_natCast, Nat.zero_add, Nat.add_zero, Nat.mul_one, Int.add_sub_cancel, eq_self, List.drop_zero, List.drop_succ_cons, Option.some.injEq, Prod.mk.injEq, Bool.and_true, Bool.true_and, Bool.and_self, true_or, List.set_cons_zero, List.set_cons_succ, scL, scD, expand, List.replicate, c19]) | (refine gC_drawW ?_) | (refine gI_dec (fun _ => ?_) (fun _ => ?_)) | (refine gG_dec (fun _ => ?_) (fun _ => ?_)) | (refine gPG_dec (fun _ => ?_) (fun _ => ?_)) | (refine gI_var (fun _ => ?_) (fun _ => ?_)) | (refine gG_var (fun _ => ?_) (fun _ => ?_)) | (refine gPG_var (fun _ => ?_) (fun _ => ?_)))
  refine callV_flat ((fun st => (indexFunc_p w n s l hl).of hC rfl st rfl) _) ?_
  have e : (!l.all col) = decide (0 ≤ fb l) := by
    unfold fb
    cases l.all col
    · simp
    · simp
  rw [e]
  repeat' (first | (simp (disch := first | omega | assumption | (refine @id ((_ : Bool) = _) ?_; exact id (by with_unfolding_all rfl)) | (exact Or.inl rfl) | (exact Or.inl trivial) | (exact okL_map _ (fun _ => rfl) _) | (simp only [List.length_map, List.length_set, List.length_replicate, List.length_cons, List.length_nil, List.length_append] <;> omega) | fail) only [VV0, VV1, VV2, VV3, VV4, VV5, VV6, VV7, mkFnV, vargs, slotsL, opdsA, not_true_eq_false, not_false_eq_true, decide_true, decide_false, Option.map_some, Option.bind_some, List.cons_append, List.nil_append, List.map_cons, List.map_nil, List.append_nil, Option.toList_some, Option.toList_none, Nat.reduceEqDiff, Nat.reduceLT, Nat.reduceAdd, Nat.reduceBEq, Int.reduceAdd, Int.reduceSub, Int.reduceLT, Int.reduceLE, Int.reduceEq, Int.reduceNeg, ↓reduceIte, if_true, if_false, Bool.false_eq_true, Bool.not_true, Bool.not_false, List.length_cons, List.length_nil, List.length_singleton, reduceCtorEq, Int.toNat_natCast, Nat.zero_add, Nat.add_zero, Nat.mul_one, Int.add_sub_cancel, eq_self, List.drop_zero, List.drop_succ_cons, Option.some.injEq, Prod.mk.injEq, Bool.and_true, Bool.true_and, Bool.and_self, true_or, List.set_cons_zero, List.set_cons_succ, scL, scD, expand, List.replicate]) | (refine gC_drawW ?_) | (refine gI_dec (fun _ => ?_) (fun _ => ?_)) | (refine gG_dec (fun _ => ?_) (fun _ => ?_)) | (refine gPG_dec (fun _ => ?_) (fun _ => ?_)) | (refine gI_var (fun _ => ?_) (fun _ => ?_)) | (refine gG_var (fun _ => ?_) (fun _ => ?_)) | (refine gPG_var (fun _ => ?_) (fun _ => ?_)))
  exact weak_flat rfl h0 rfl
theorem check_p (s : Nat) (l : List Int) (hl : l.length ≤ 140737488351232) : VSpec (EN w (n + 5)) 12 [.sl s l.length (l.map iD)] (.sc (.int .i64 (chk l))) ⟨[], 0, 0⟩ := by
  refine vspec_flat rfl rfl (fun _ _ => rfl) (Nat.le_of_ble_eq_true rfl) (oldVals w) rfl fun C hC h0 => ?_
  by_cases h4 : 4000 < l.length
  · have e : chk l = 4 := if_pos h4
    rw [e]
    repeat' (first | (simp (disch := first | omega | assumption | (refine @id ((_ : Bool) = _) ?_; exact id (by with_unfolding_all rfl)) | (exact Or.inl rfl) | (exact Or.inl trivial) | (exact okL_map _ (fun _ => rfl) _) | (simp only [List.length_map, List.length_set, List.length_replicate, List.length_cons, List.length_nil, List.length_append] <;> omega) | fail) only [VV0, VV1, VV2, VV3, VV4, VV5, VV6, VV7, mkFnV, vargs, slotsL, opdsA, not_true_eq_false, not_false_eq_true, decide_true, decide_false, Option.map_some, Option.bind_some, List.cons_append, List.nil_append, List.map_cons, List.map_nil, List.append_nil, Option.toList_some, Option.toList_none, Nat.reduceEqDiff, Nat.reduceLT, Nat.reduceAdd, Nat.reduceBEq, Int.reduceAdd, Int.reduceSub, Int.reduceLT, Int.reduceLE, Int.reduceEq, Int.reduceNeg, ↓reduceIte, if_true, if_false, Bool.false_eq_true, Bool.not_true, Bool.not_false, List.length_cons, List.length_nil, List.length_singleton, reduceCtorEq, Int.toNat_natCast, Nat.zero_add, Nat.add_zero, Nat.mul_one, Int.add_sub_cancel, eq_self, List.drop_zero, List.drop_succ_cons, Option.some.injEq, Prod.mk.injEq, Bool.and_true, Bool.true_and, Bool.and_self, true_or, List.set_cons_zero, List.set_cons_succ, scL, scD, expand, List.replicate, c12]) | (refine gC_drawW ?_) | (refine gI_dec (fun _ => ?_) (fun _ => ?_)) | (refine gG_dec (fun _ => ?_) (fun _ => ?_)) | (refine gPG_dec (fun _ => ?_) (fun _ => ?_)) | (refine gI_var (fun _ => ?_) (fun _ => ?_)) | (refine gG_var (fun _ => ?_) (fun _ => ?_)) | (refine gPG_var (fun _ => ?_) (fun _ => ?_)))
    exact weak_flat rfl h0 rfl
  have e : chk l = if l.all col then 0 else 8 := if_neg h4
  rw [e]
  repeat' (first | (simp (disch := first | omega | assumption | (refine @id ((_ : Bool) = _) ?_; exact id (by with_unfolding_all rfl)) | (exact Or.inl rfl) | (exact Or.inl trivial) | (exact okL_map _ (fun _ => rfl) _) | (simp only [List.length_map, List.length_set, List.length_replicate, List.length_cons, List.length_nil, List.length_append] <;> omega) | fail) only [VV0, VV1, VV2, VV3, VV4, VV5, VV6, VV7, mkFnV, vargs, slotsL, opdsA, not_true_eq_false, not_false_eq_true, decide_true, decide_false, Option.map_some, Option.bind_some, List.cons_append, List.nil_append, List.map_cons, List.map_nil, List.append_nil, Option.toList_some, Option.toList_none, Nat.reduceEqDiff, Nat.reduceLT, Nat.reduceAdd, Nat.reduceBEq, Int.reduceAdd, Int.reduceSub, Int.reduceLT, Int.reduceLE, Int.reduceEq, Int.reduceNeg, ↓reduceIte, if_true, if_false, Bool.false_eq_true, Bool.not_true, Bool.not_false, List.length_cons, List.length_nil, List.length_singleton, reduceCtorEq, Int.toNat_natCast, Nat.zero_add, Nat.add_zero, Nat.mul_one, Int.add_sub_cancel, eq_self, List.drop_zero, List.drop_succ_cons, Option.some.injEq, Prod.mk.injEq, Bool.and_true, Bool.true_and, Bool.and_self, true_or, List.set_cons_zero, List.set_cons_succ, scL, scD, expand, List.replicate, c12]) | (refine gC_drawW ?_) | (refine gI_dec (fun _ => ?_) (fun _ => ?_)) | (refine gG_dec (fun _ => ?_) (fun _ => ?_)) | (refine gPG_dec (fun _ => ?_) (fun _ => ?_)) | (refine gI_var (fun _ => ?_) (fun _ => ?_)) | (refine gG_var (fun _ => ?_) (fun _ => ?_)) | (refine gPG_var (fun _ => ?_) (fun _ => ?_)))
  refine callV_flat ((fun st => (contains_p w n s l hl).of hC rfl st rfl) _) ?_
  cases l.all col
  · repeat' (first | (simp (disch := first | omega | assumption | (refine @id ((_ : Bool) = _) ?_; exact id (by with_unfolding_all rfl)) | (exact Or.inl rfl) | (exact Or.inl trivial) | (exact okL_map _ (fun _ => rfl) _) | (simp only [List.length_map, List.length_set, List.length_replicate, List.length_cons, List.length_nil, List.length_append] <;> omega) | fail) only [VV0, VV1, VV2, VV3, VV4, VV5, VV6, VV7, mkFnV, vargs, slotsL, opdsA, not_true_eq_false, not_false_eq_true, decide_true, decide_false, Option.map_some, Option.bind_some, List.cons_append, List.nil_append, List.map_cons, List.map_nil, List.append_nil, Option.toList_some, Option.toList_none, Nat.reduceEqDiff, Nat.reduceLT, Nat.reduceAdd, Nat.reduceBEq, Int.reduceAdd, Int.reduceSub, Int.reduceLT, Int.reduceLE, Int.reduceEq, Int.reduceNeg, ↓reduceIte, if_true, if_false, Bool.false_eq_true, Bool.not_true, Bool.not_false, List.length_cons, List.length_nil, List.length_singleton, reduceCtorEq, Int.toNat_natCast, Nat.zero_add, Nat.add_zero, Nat.mul_one, Int.add_sub_cancel, eq_self, List.drop_zero, List.drop_succ_cons, Option.some.injEq, Prod.mk.injEq, Bool.and_true, Bool.true_and, Bool.and_self, true_or, List.set_cons_zero, List.set_cons_succ, scL, scD, expand, List.replicate]) | (refine gC_drawW ?_) | (refine gI_dec (fun _ => ?_) (fun _ => ?_)) | (refine gG_dec (fun _ => ?_) (fun _ => ?_)) | (refine gPG_dec (fun _ => ?_) (fun _ => ?_)) | (refine gI_var (fun _ => ?_) (fun _ => ?_)) | (refine gG_var (fun _ => ?_) (fun _ => ?_)) | (refine gPG_var (fun _ => ?_) (fun _ => ?_)))
    exact weak_flat rfl h0 rfl
  · repeat' (first | (simp (disch := first | omega | assumption | (refine @id ((_ : Bool) = _) ?_; exact id (by with_unfolding_all rfl)) | (exact Or.inl rfl) | (exact Or.inl trivial) | (exact okL_map _ (fun _ => rfl) _) | (simp only [List.length_map, List.length_set, List.length_replicate, List.length_cons, List.length_nil, List.length_append] <;> omega) | fail) only [VV0, VV1, VV2, VV3, VV4, VV5, VV6, VV7, mkFnV, vargs, slotsL, opdsA, not_true_eq_false, not_false_eq_true, decide_true, decide_false, Option.map_some, Option.bind_some, List.cons_append, List.nil_append, List.map_cons, List.map_nil, List.append_nil, Option.toList_some, Option.toList_none, Nat.reduceEqDiff, Nat.reduceLT, Nat.reduceAdd, Nat.reduceBEq, Int.reduceAdd, Int.reduceSub, Int.reduceLT, Int.reduceLE, Int.reduceEq, Int.reduceNeg, ↓reduceIte, if_true, if_false, Bool.false_eq_true, Bool.not_true, Bool.not_false, List.length_cons, List.length_nil, List.length_singleton, reduceCtorEq, Int.toNat_natCast, Nat.zero_add, Nat.add_zero, Nat.mul_one, Int.add_sub_cancel, eq_self, List.drop_zero, List.drop_succ_cons, Option.some.injEq, Prod.mk.injEq, Bool.and_true, Bool.true_and, Bool.and_self, true_or, List.set_cons_zero, List.set_cons_succ, scL, scD, expand, List.replicate]) | (refine gC_drawW ?_) | (refine gI_dec (fun _ => ?_) (fun _ => ?_)) | (refine gG_dec (fun _ => ?_) (fun _ => ?_)) | (refine gPG_dec (fun _ => ?_) (fun _ => ?_)) | (refine gI_var (fun _ => ?_) (fun _ => ?_)) | (refine gG_var (fun _ => ?_) (fun _ => ?_)) | (refine gPG_var (fun _ => ?_) (fun _ => ?_)))
    exact weak_flat rfl h0 rfl
theorem rcheck_p (s : Nat) (l : List Int) (hl : l.length ≤ 140737488351232) : VSpec (EN w (n + 1)) 15 [.sl s l.length (l.map iD)] (.sc (.int .i64 (chk l))) ⟨[], 0, 0⟩ := by
  refine vspec_flat rfl rfl (fun _ _ => rfl) (Nat.le_of_ble_eq_true rfl) (oldVals w) rfl fun C hC h0 => ?_
  by_cases h4 : 4000 < l.length
  · have e : chk l = 4 := if_pos h4
    rw [e]
    repeat' (first | (simp (disch := first | omega | assumption | (refine @id ((_ : Bool) = _) ?_; exact id (by with_unfolding_all rfl)) | (exact Or.inl rfl) | (exact Or.inl trivial) | (exact okL_map _ (fun _ => rfl) _) | (simp only [List.length_map, List.length_set, List.length_replicate, List.length_cons, List.length_nil, List.length_append] <;> omega) | fail) only [VV0, VV1, VV2, VV3, VV4, VV5, VV6, VV7, mkFnV, vargs, slotsL, opdsA, not_true_eq_false, not_false_eq_true, decide_true, decide_false, Option.map_some, Option.bind_some, List.cons_append, List.nil_append, List.map_cons, List.map_nil, List.append_nil, Option.toList_some, Option.toList_none, Nat.reduceEqDiff, Nat.reduceLT, Nat.reduceAdd, Nat.reduceBEq, Int.reduceAdd, Int.reduceSub, Int.reduceLT, Int.reduceLE, Int.reduceEq, Int.reduceNeg, ↓reduceIte, if_true, if_false, Bool.false_eq_true, Bool.not_true, Bool.not_false, List.length_cons, List.length_nil, List.length_singleton, reduceCtorEq, Int.toNat_natCast, Nat.zero_add, Nat.add_zero, Nat.mul_one, Int.add_sub_cancel, eq_self, List.drop_zero, List.drop_succ_cons, Option.some.injEq, Prod.mk.injEq, Bool.and_true, Bool.true_and, Bool.and_self, true_or, List.set_cons_zero, List.set_cons_succ, scL, scD, expand, List.replicate, c15]) | (refine gC_drawW ?_) | (refine gI_dec (fun _ => ?_) (fun _ => ?_)) | (refine gG_dec (fun _ => ?_) (fun _ => ?_)) | (refine gPG_dec (fun _ => ?_) (fun _ => ?_)) | (refine gI_var (fun _ => ?_) (fun _ => ?_)) | (refine gG_var (fun _ => ?_) (fun _ => ?_)) | (refine gPG_var (fun _ => ?_) (fun _ => ?_)))
    exact weak_flat rfl h0 rfl
  have e : chk l = if l.all col then 0 else 8 := if_neg h4
  rw [e]
  simp (disch := first | omega | assumption | (refine @id ((_ : Bool) = _) ?_; exact id (by with_unfolding_all rfl)) | (exact Or.inl rfl) | (exact Or.inl trivial) | (exact okL_map _ (fun _ => rfl) _) | (simp only [List.length_map, List.length_set, List.length_replicate, List.length_cons, List.length_nil, List.length_append] <;> omega) | fail) only [VV0, VV1, VV2, VV3, VV4, VV5, VV6, VV7, mkFnV, vargs, slotsL, opdsA, not_true_eq_false, not_false_eq_true, decide_true, decide_false, Option.map_some, Option.bind_some, List.cons_append, List.nil_append, List.map_cons, List.map_nil, List.append_nil, Option.toList_some, Option.toList_none, Nat.reduceEqDiff, Nat.reduceLT, Nat.reduceAdd, Nat.reduceBEq, Int.reduceAdd, Int.reduceSub, Int.reduceLT, Int.reduceLE, Int.reduceEq, Int.reduceNeg, ↓reduceIte, if_true, if_false, Bool.false_eq_true, Bool.not_true, Bool.not_false, List.length_cons, List.length_nil, List.length_singleton, reduceCtorEq, Int.toNat_natCast, Nat.zero_add, Nat.add_zero, Nat.mul_one, Int.add_sub_cancel, eq_self, List.drop_zero, List.drop_succ_cons, Option.some.injEq, Prod.mk.injEq, Bool.and_true, Bool.true_and, Bool.and_self, true_or, List.set_cons_zero, List.set_cons_succ, scL, scD, expand, List.replicate, c15]
  refine g_while (fun m fr st => ∃ k : Nat, m = l.length - k ∧ k ≤ l.length ∧ (∀ j, j < k → col l[j]! = true) ∧ fr = [(0, .sl s l.length (l.map iD)), (3, .sc (.int .i64 k))] ∧ st = ⟨[], 0, 0⟩) l.length ?_ ⟨_, _, .refl _ _, 0, ?_⟩ ?_
  · rw [hC, callP_rounds]; unfold many; omega
  · exact ⟨by omega, by omega, (fun j hj => absurd hj (Nat.not_lt_zero _)), rfl, rfl⟩
  · rintro m fr st ⟨k, rfl, hk, ha, rfl, rfl⟩
    by_cases hlt : k < l.length
    · cases hc : col l[k]!
      · rw [if_neg (by rw [all_at hlt hc]; exact Bool.false_ne_true)]
        have hc' : ¬ (0 ≤ l[k]! ∧ l[k]! ≤ 15) := by
          intro h
          have : col l[k]! = true := by unfold col; rw [Bool.and_eq_true]; exact ⟨decide_eq_true h.1, decide_eq_true h.2⟩
          rw [hc] at this; cases this
        generalize hx : l[k]! = x at hc'
        by_cases h1 : x < 0
        · repeat' (first | (simp (disch := first | omega | assumption | (refine @id ((_ : Bool) = _) ?_; exact id (by with_unfolding_all rfl)) | (exact Or.inl rfl) | (exact Or.inl trivial) | (exact okL_map _ (fun _ => rfl) _) | (simp only [List.length_map, List.length_set, List.length_replicate, List.length_cons, List.length_nil, List.length_append] <;> omega) | fail) only [VV0, VV1, VV2, VV3, VV4, VV5, VV6, VV7, mkFnV, vargs, slotsL, opdsA, not_true_eq_false, not_false_eq_true, decide_true, decide_false, Option.map_some, Option.bind_some, List.cons_append, List.nil_append, List.map_cons, List.map_nil, List.append_nil, Option.toList_some, Option.toList_none, Nat.reduceEqDiff, Nat.reduceLT, Nat.reduceAdd, Nat.reduceBEq, Int.reduceAdd, Int.reduceSub, Int.reduceLT, Int.reduceLE, Int.reduceEq, Int.reduceNeg, ↓reduceIte, if_true, if_false, Bool.false_eq_true, Bool.not_true, Bool.not_false, List.length_cons, List.length_nil, List.length_singleton, reduceCtorEq, Int.toNat_natCast, Nat.zero_add, Nat.add_zero, Nat.mul_one, Int.add_sub_cancel, eq_self, List.drop_zero, List.drop_succ_cons, Option.some.injEq, Prod.mk.injEq, Bool.and_true, Bool.true_and, Bool.and_self, true_or, List.set_cons_zero, List.set_cons_succ, scL, scD, expand, List.replicate, c15l0, iD_dv, hx]) | (refine gC_drawW ?_) | (refine gI_dec (fun _ => ?_) (fun _ => ?_)) | (refine gG_dec (fun _ => ?_) (fun _ => ?_)) | (refine gPG_dec (fun _ => ?_) (fun _ => ?_)) | (refine gI_var (fun _ => ?_) (fun _ => ?_)) | (refine gG_var (fun _ => ?_) (fun _ => ?_)) | (refine gPG_var (fun _ => ?_) (fun _ => ?_)))
          exact weak_flat rfl h0 rfl
        · have h2 : 15 < x := by omega
          repeat' (first | (simp (disch := first | omega | assumption | (refine @id ((_ : Bool) = _) ?_; exact id (by with_unfolding_all rfl)) | (exact Or.inl rfl) | (exact Or.inl trivial) | (exact okL_map _ (fun _ => rfl) _) | (simp only [List.length_map, List.length_set, List.length_replicate, List.length_cons, List.length_nil, List.length_append] <;> omega) | fail) only [VV0, VV1, VV2, VV3, VV4, VV5, VV6, VV7, mkFnV, vargs, slotsL, opdsA, not_true_eq_false, not_false_eq_true, decide_true, decide_false, Option.map_some, Option.bind_some, List.cons_append, List.nil_append, List.map_cons, List.map_nil, List.append_nil, Option.toList_some, Option.toList_none, Nat.reduceEqDiff, Nat.reduceLT, Nat.reduceAdd, Nat.reduceBEq, Int.reduceAdd, Int.reduceSub, Int.reduceLT, Int.reduceLE, Int.reduceEq, Int.reduceNeg, ↓reduceIte, if_true, if_false, Bool.false_eq_true, Bool.not_true, Bool.not_false, List.length_cons, List.length_nil, List.length_singleton, reduceCtorEq, Int.toNat_natCast, Nat.zero_add, Nat.add_zero, Nat.mul_one, Int.add_sub_cancel, eq_self, List.drop_zero, List.drop_succ_cons, Option.some.injEq, Prod.mk.injEq, Bool.and_true, Bool.true_and, Bool.and_self, true_or, List.set_cons_zero, List.set_cons_succ, scL, scD, expand, List.replicate, c15l0, iD_dv, hx]) | (refine gC_drawW ?_) | (refine gI_dec (fun _ => ?_) (fun _ => ?_)) | (refine gG_dec (fun _ => ?_) (fun _ => ?_)) | (refine gPG_dec (fun _ => ?_) (fun _ => ?_)) | (refine gI_var (fun _ => ?_) (fun _ => ?_)) | (refine gG_var (fun _ => ?_) (fun _ => ?_)) | (refine gPG_var (fun _ => ?_) (fun _ => ?_)))
          exact weak_flat rfl h0 rfl
      · have hc' : 0 ≤ l[k]! ∧ l[k]! ≤ 15 := by simpa [col] using hc
        have hn : ∀ j, j < k + 1 → col l[j]! = true := (fun j hj => by rcases Nat.lt_succ_iff_lt_or_eq.1 hj with h | h; exact ha j h; subst h; exact hc)
        generalize hx : l[k]! = x at hc'
        have h1 : ¬ x < 0 := by omega
        have h2 : ¬ 15 < x := by omega
        repeat' (first | (simp (disch := first | omega | assumption | (refine @id ((_ : Bool) = _) ?_; exact id (by with_unfolding_all rfl)) | (exact Or.inl rfl) | (exact Or.inl trivial) | (exact okL_map _ (fun _ => rfl) _) | (simp only [List.length_map, List.length_set, List.length_replicate, List.length_cons, List.length_nil, List.length_append] <;> omega) | fail) only [VV0, VV1, VV2, VV3, VV4, VV5, VV6, VV7, mkFnV, vargs, slotsL, opdsA, not_true_eq_false, not_false_eq_true, decide_true, decide_false, Option.map_some, Option.bind_some, List.cons_append, List.nil_append, List.map_cons, List.map_nil, List.append_nil, Option.toList_some, Option.toList_none, Nat.reduceEqDiff, Nat.reduceLT, Nat.reduceAdd, Nat.reduceBEq, Int.reduceAdd, Int.reduceSub, Int.reduceLT, Int.reduceLE, Int.reduceEq, Int.reduceNeg, ↓reduceIte, if_true, if_false, Bool.false_eq_true, Bool.not_true, Bool.not_false, List.length_cons, List.length_nil, List.length_singleton, reduceCtorEq, Int.toNat_natCast, Nat.zero_add, Nat.add_zero, Nat.mul_one, Int.add_sub_cancel, eq_self, List.drop_zero, List.drop_succ_cons, Option.some.injEq, Prod.mk.injEq, Bool.and_true, Bool.true_and, Bool.and_self, true_or, List.set_cons_zero, List.set_cons_succ, scL, scD, expand, List.replicate, c15l0, iD_dv, hx]) | (refine gC_drawW ?_) | (refine gI_dec (fun _ => ?_) (fun _ => ?_)) | (refine gG_dec (fun _ => ?_) (fun _ => ?_)) | (refine gPG_dec (fun _ => ?_) (fun _ => ?_)) | (refine gI_var (fun _ => ?_) (fun _ => ?_)) | (refine gG_var (fun _ => ?_) (fun _ => ?_)) | (refine gPG_var (fun _ => ?_) (fun _ => ?_)))
        exact ⟨_, _, _, by omega, .refl _ _, k + 1, rfl, hlt, hn, rfl, rfl⟩
    · have : k = l.length := by omega
      subst this
      rw [if_pos (fb_end ha).2]
      repeat' (first | (simp (disch := first | omega | assumption | (refine @id ((_ : Bool) = _) ?_; exact id (by with_unfolding_all rfl)) | (exact Or.inl rfl) | (exact Or.inl trivial) | (exact okL_map _ (fun _ => rfl) _) | (simp only [List.length_map, List.length_set, List.length_replicate, List.length_cons, List.length_nil, List.length_append] <;> omega) | fail) only [VV0, VV1, VV2, VV3, VV4, VV5, VV6, VV7, mkFnV, vargs, slotsL, opdsA, not_true_eq_false, not_false_eq_true, decide_true, decide_false, Option.map_some, Option.bind_some, List.cons_append, List.nil_append, List.map_cons, List.map_nil, List.append_nil, Option.toList_some, Option.toList_none, Nat.reduceEqDiff, Nat.reduceLT, Nat.reduceAdd, Nat.reduceBEq, Int.reduceAdd, Int.reduceSub, Int.reduceLT, Int.reduceLE, Int.reduceEq, Int.reduceNeg, ↓reduceIte, if_true, if_false, Bool.false_eq_true, Bool.not_true, Bool.not_false, List.length_cons, List.length_nil, List.length_singleton, reduceCtorEq, Int.toNat_natCast, Nat.zero_add, Nat.add_zero, Nat.mul_one, Int.add_sub_cancel, eq_self, List.drop_zero, List.drop_succ_cons, Option.some.injEq, Prod.mk.injEq, Bool.and_true, Bool.true_and, Bool.and_self, true_or, List.set_cons_zero, List.set_cons_succ, scL, scD, expand, List.replicate, c15l0, iD_dv]) | (refine gC_drawW ?_) | (refine gI_dec (fun _ => ?_) (fun _ => ?_)) | (refine gG_dec (fun _ => ?_) (fun _ => ?_)) | (refine gPG_dec (fun _ => ?_) (fun _ => ?_)) | (refine gI_var (fun _ => ?_) (fun _ => ?_)) | (refine gG_var (fun _ => ?_) (fun _ => ?_)) | (refine gPG_var (fun _ => ?_) (fun _ => ?_)))
      exact weak_flat rfl h0 rfl
end
end Go.Proofs.Ytgglaaldlegckaa
namespace Go.Proofs.Ytgglaaldlegckaa
open Go Go.Itp
set_option maxRecDepth 100000
set_option maxHeartbeats 1000000
set_option linter.unusedSimpArgs false
/-- a list whose first k and last k elements have changed places -/
def sw (l : List Int) (k : Nat) : List Int := (List.range l.length).map fun x => if x < k ∨ l.length - k ≤ x then l[l.length - 1 - x]! else l[x]!
theorem sw_len (l : List Int) (k : Nat) : (sw l k).length = l.length := by simp [sw]
theorem sw_get (l : List Int) (k x : Nat) (h : x < l.length) : (sw l k)[x]! = if x < k ∨ l.length - k ≤ x then l[l.length - 1 - x]! else l[x]! := by
  rw [getElem!_pos _ _ (by rw [sw_len]; exact h)]
  simp [sw]
theorem sw_zero (l : List Int) : sw l 0 = l := by
  refine List.ext_getElem (sw_len l 0) fun i h1 h2 => ?_
  have := sw_get l 0 i h2
  rw [getElem!_pos (sw l 0) i h1] at this
  rw [this, if_neg (by omega), getElem!_pos l i h2]
theorem sw_step (l : List Int) (k j : Nat) (h : k < j) (hj : (l.length : Int) - 1 - k = j) : ((sw l k).set k (sw l k)[j]!).set j (sw l k)[k]! = sw l (k + 1) := by
  refine List.ext_getElem (by simp [sw_len]) fun i h1 h2 => ?_
  rw [sw_len] at h2
  have e := sw_get l (k + 1) i h2
  rw [getElem!_pos _ _ (by rw [sw_len]; exact h2)] at e
  have e1 := sw_get l k i h2
  rw [getElem!_pos _ _ (by rw [sw_len]; exact h2)] at e1
  have ej : (sw l k)[j]! = l[j]! := by rw [sw_get l k j (by omega), if_neg (by omega)]
  have ek : (sw l k)[k]! = l[k]! := by rw [sw_get l k k (by omega), if_neg (by omega)]
  rw [e, List.getElem_set, List.getElem_set, e1, ej, ek]
  by_cases h3 : j = i
  · subst h3
    rw [if_pos rfl, if_pos (by omega), show l.length - 1 - j = k by omega]
  rw [if_neg h3]
  by_cases h4 : k = i
  · subst h4
    rw [if_pos rfl, if_pos (by omega), show l.length - 1 - k = j by omega]
  rw [if_neg h4]
  by_cases h5 : i < k ∨ l.length - k ≤ i
  · rw [if_pos h5, if_pos (by omega)]
  · rw [if_neg h5, if_neg (by omega)]
theorem sw_end (l : List Int) (k : Nat) (h : ¬ (k : Int) < (l.length : Int) - 1 - k) : sw l k = l.reverse := by
  refine List.ext_getElem (by simp [sw_len]) fun i h1 h2 => ?_
  rw [sw_len] at h1
  have e := sw_get l k i h1
  rw [getElem!_pos _ _ (by rw [sw_len]; exact h1)] at e
  rw [e, List.getElem_reverse]
  by_cases h3 : i < k ∨ l.length - k ≤ i
  · rw [if_pos h3, getElem!_pos l (l.length - 1 - i) (by omega)]
  · rw [if_neg h3, getElem!_pos l i h1]
    congr 1
    omega
def windP (l : List Int) (t : Bool) : Nat → List Int
  | 0 => []
  | k + 1 => windP l t k ++ (if t = true ∧ k % 2 = 1 then l.reverse else l)
theorem windP_len (l : List Int) (t : Bool) : ∀ k, (windP l t k).length = k * l.length
  | 0 => by simp [windP]
  | k + 1 => by
    simp only [windP, List.length_append, windP_len l t k, Nat.add_mul, Nat.one_mul]
    split <;> simp
section
variable (w : World) (n : Nat)
theorem clone_p (s : Nat) (l : List Int) (hl : l.length ≤ 100000000000) (h0 : 0 < l.length) : VSpec (EN w (n + 1)) 18 [.sl s l.length (l.map iD)] (.gr 2 0 l.length) ⟨[(0, .gro 3 1 false (l.map iD))], 1, 0⟩ := by
  refine vspec_g rfl rfl (fun _ _ => rfl) (Nat.le_of_ble_eq_true rfl) (oldVals w) (retOK_gr (map_nil_iff rfl)) rfl fun C hC hn => ?_
  have hlm : (l.map iD).length = l.length * 1 := by simp
  have hne : l.length ≠ 0 := by omega
  have hnl : isNilV' 1 (.sl s l.length (l.map iD)) = some false := by
    have h3 : Nat.beq l.length 0 = false := nbf.2 hne
    simp only [isNilV', h3]
    cases Nat.beq s 0 <;> cases Nat.beq s 2 <;> rfl
  repeat' (first | (simp (disch := first | omega | assumption | (refine @id ((_ : Bool) = _) ?_; exact id (by with_unfolding_all rfl)) | (exact Or.inl rfl) | (exact Or.inl trivial) | (exact okL_map _ (fun _ => rfl) _) | (simp only [List.length_map, List.length_set, List.length_replicate, List.length_cons, List.length_nil, List.length_append] <;> omega) | fail) only [VV0, VV1, VV2, VV3, VV4, VV5, VV6, VV7, mkFnV, vargs, slotsL, opdsA, not_true_eq_false, not_false_eq_true, decide_true, decide_false, Option.map_some, Option.bind_some, List.cons_append, List.nil_append, List.map_cons, List.map_nil, List.append_nil, Option.toList_some, Option.toList_none, Nat.reduceEqDiff, Nat.reduceLT, Nat.reduceAdd, Nat.reduceBEq, Int.reduceAdd, Int.reduceSub, Int.reduceLT, Int.reduceLE, Int.reduceEq, Int.reduceNeg, ↓reduceIte, if_true, if_false, Bool.false_eq_true, Bool.not_true, Bool.not_false, List.length_cons, List.length_nil, List.length_singleton, reduceCtorEq, Int.toNat_natCast, Nat.zero_add, Nat.add_zero, Nat.mul_one, Int.add_sub_cancel, eq_self, List.drop_zero, List.drop_succ_cons, Option.some.injEq, Prod.mk.injEq, Bool.and_true, Bool.true_and, Bool.and_self, true_or, List.set_cons_zero, List.set_cons_succ, scL, scD, expand, List.replicate, c18, eqNilV_nil, hnl]) | (refine gC_drawW ?_) | (refine gI_dec (fun _ => ?_) (fun _ => ?_)) | (refine gG_dec (fun _ => ?_) (fun _ => ?_)) | (refine gPG_dec (fun _ => ?_) (fun _ => ?_)) | (refine gI_var (fun _ => ?_) (fun _ => ?_)) | (refine gG_var (fun _ => ?_) (fun _ => ?_)) | (refine gPG_var (fun _ => ?_) (fun _ => ?_)))
  exact weak_to [(1, 0)] 1 hn rfl rfl rfl rfl
theorem reverse_w {C : Ctx} {st : VSt} {Q : V → VSt → Prop} (hC : C.E = EN w (n + 1)) (o t s : Nat) (l : List Int) (hl : l.length ≤ 100000000000) (ho : aget st.own o = some (.gro t 1 false (l.map iD))) (hro : st.ro ≤ o)
    (hq : Q (.tup []) ⟨aset st.own o (.gro t 1 false (l.reverse.map iD)), st.next, st.ro⟩) : CallV C 40 [.gr s o l.length] st Q := by
  refine callV_w hC rfl rfl (fun _ _ => rfl) (Nat.le_of_ble_eq_true rfl) hq fun C' hC' hn => ?_
  obtain ⟨H, nx, ro⟩ := st
  simp only at ho hro hn
  have hs : (aget H o).isSome = true := by rw [ho]; rfl
  simp (disch := first | omega | assumption | (refine @id ((_ : Bool) = _) ?_; exact id (by with_unfolding_all rfl)) | (exact Or.inl rfl) | (exact Or.inl trivial) | (exact okL_map _ (fun _ => rfl) _) | (simp only [List.length_map, List.length_set, List.length_replicate, List.length_cons, List.length_nil, List.length_append] <;> omega) | fail) only [VV0, VV1, VV2, VV3, VV4, VV5, VV6, VV7, mkFnV, vargs, slotsL, opdsA, not_true_eq_false, not_false_eq_true, decide_true, decide_false, Option.map_some, Option.bind_some, List.cons_append, List.nil_append, List.map_cons, List.map_nil, List.append_nil, Option.toList_some, Option.toList_none, Nat.reduceEqDiff, Nat.reduceLT, Nat.reduceAdd, Nat.reduceBEq, Int.reduceAdd, Int.reduceSub, Int.reduceLT, Int.reduceLE, Int.reduceEq, Int.reduceNeg, ↓reduceIte, if_true, if_false, Bool.false_eq_true, Bool.not_true, Bool.not_false, List.length_cons, List.length_nil, List.length_singleton, reduceCtorEq, Int.toNat_natCast, Nat.zero_add, Nat.add_zero, Nat.mul_one, Int.add_sub_cancel, eq_self, List.drop_zero, List.drop_succ_cons, Option.some.injEq, Prod.mk.injEq, Bool.and_true, Bool.true_and, Bool.and_self, true_or, List.set_cons_zero, List.set_cons_succ, scL, scD, expand, List.replicate, c40]
  refine g_while (fun m fr st => ∃ (k : Nat) (z : Int), m = l.length - k ∧ z = (l.length : Int) - 1 - k ∧ k ≤ l.length ∧ fr = [(0, .gr s o l.length), (2, .sc (.int .i64 k)), (3, .sc (.int .i64 z))] ∧ st = ⟨aset H o (.gro t 1 false ((sw l k).map iD)), nx, ro⟩) l.length ?_ ⟨_, _, .refl _ _, 0, (l.length : Int) - 1, ?_⟩ ?_
  · rw [hC', callP_rounds]; unfold many; omega
  · exact ⟨by omega, by omega, by omega, rfl, by rw [sw_zero, aset_self _ _ _ ho]⟩
  · rintro m fr st ⟨k, z, rfl, hz, hk, rfl, rfl⟩
    have hlm : ((sw l k).map iD).length = l.length := by simp [sw_len]
    by_cases hlt : (k : Int) < z
    · obtain ⟨j, rfl⟩ : ∃ j : Nat, z = j := ⟨z.toNat, by omega⟩
      have hsl := sw_len l k
      have hst := sw_step l k j (by omega) hz.symm
      repeat' (first | (simp (disch := first | omega | assumption | (refine @id ((_ : Bool) = _) ?_; exact id (by with_unfolding_all rfl)) | (exact Or.inl rfl) | (exact Or.inl trivial) | (exact okL_map _ (fun _ => rfl) _) | (simp only [List.length_map, List.length_set, List.length_replicate, List.length_cons, List.length_nil, List.length_append] <;> omega) | fail) only [VV0, VV1, VV2, VV3, VV4, VV5, VV6, VV7, mkFnV, vargs, slotsL, opdsA, not_true_eq_false, not_false_eq_true, decide_true, decide_false, Option.map_some, Option.bind_some, List.cons_append, List.nil_append, List.map_cons, List.map_nil, List.append_nil, Option.toList_some, Option.toList_none, Nat.reduceEqDiff, Nat.reduceLT, Nat.reduceAdd, Nat.reduceBEq, Int.reduceAdd, Int.reduceSub, Int.reduceLT, Int.reduceLE, Int.reduceEq, Int.reduceNeg, ↓reduceIte, if_true, if_false, Bool.false_eq_true, Bool.not_true, Bool.not_false, List.length_cons, List.length_nil, List.length_singleton, reduceCtorEq, Int.toNat_natCast, Nat.zero_add, Nat.add_zero, Nat.mul_one, Int.add_sub_cancel, eq_self, List.drop_zero, List.drop_succ_cons, Option.some.injEq, Prod.mk.injEq, Bool.and_true, Bool.true_and, Bool.and_self, true_or, List.set_cons_zero, List.set_cons_succ, scL, scD, expand, List.replicate, c40l0, iD_dv]) | (refine gC_drawW ?_) | (refine gI_dec (fun _ => ?_) (fun _ => ?_)) | (refine gG_dec (fun _ => ?_) (fun _ => ?_)) | (refine gPG_dec (fun _ => ?_) (fun _ => ?_)) | (refine gI_var (fun _ => ?_) (fun _ => ?_)) | (refine gG_var (fun _ => ?_) (fun _ => ?_)) | (refine gPG_var (fun _ => ?_) (fun _ => ?_)))
      refine ⟨_, _, _, by omega, .refl _ _, k + 1, (j : Int) - 1, rfl, by omega, by omega, rfl, ?_⟩
      rw [← hst, List.map_set, List.map_set]
      rfl
    · rw [sw_end l k (by omega)]
      repeat' (first | (simp (disch := first | omega | assumption | (refine @id ((_ : Bool) = _) ?_; exact id (by with_unfolding_all rfl)) | (exact Or.inl rfl) | (exact Or.inl trivial) | (exact okL_map _ (fun _ => rfl) _) | (simp only [List.length_map, List.length_set, List.length_replicate, List.length_cons, List.length_nil, List.length_append] <;> omega) | fail) only [VV0, VV1, VV2, VV3, VV4, VV5, VV6, VV7, mkFnV, vargs, slotsL, opdsA, not_true_eq_false, not_false_eq_true, decide_true, decide_false, Option.map_some, Option.bind_some, List.cons_append, List.nil_append, List.map_cons, List.map_nil, List.append_nil, Option.toList_some, Option.toList_none, Nat.reduceEqDiff, Nat.reduceLT, Nat.reduceAdd, Nat.reduceBEq, Int.reduceAdd, Int.reduceSub, Int.reduceLT, Int.reduceLE, Int.reduceEq, Int.reduceNeg, ↓reduceIte, if_true, if_false, Bool.false_eq_true, Bool.not_true, Bool.not_false, List.length_cons, List.length_nil, List.length_singleton, reduceCtorEq, Int.toNat_natCast, Nat.zero_add, Nat.add_zero, Nat.mul_one, Int.add_sub_cancel, eq_self, List.drop_zero, List.drop_succ_cons, Option.some.injEq, Prod.mk.injEq, Bool.and_true, Bool.true_and, Bool.and_self, true_or, List.set_cons_zero, List.set_cons_succ, scL, scD, expand, List.replicate, c40l0, iD_dv]) | (refine gC_drawW ?_) | (refine gI_dec (fun _ => ?_) (fun _ => ?_)) | (refine gG_dec (fun _ => ?_) (fun _ => ?_)) | (refine gPG_dec (fun _ => ?_) (fun _ => ?_)) | (refine gI_var (fun _ => ?_) (fun _ => ?_)) | (refine gG_var (fun _ => ?_) (fun _ => ?_)) | (refine gPG_var (fun _ => ?_) (fun _ => ?_)))
      exact .refl _ _
theorem straight_p (s m : Nat) (i : Int) (c : List D) (hs : s ≠ 1 ∨ m ≠ 0) : VSpec (EN w (n + 1)) 41 [.agg [], .sl s m c, .sc (.int .i64 i)] (.sl s m c) ⟨[], 0, 0⟩ := by
  refine vspec_g rfl rfl (fun _ _ => rfl) (Nat.le_of_ble_eq_true rfl) (oldVals w) (retOK_nil ?_) rfl fun C hC hn => ?_
  · simp only [Cl, okD, Bool.or_eq_true, Bool.not_eq_true', nbf]; exact hs
  repeat' (first | (simp (disch := first | omega | assumption | (refine @id ((_ : Bool) = _) ?_; exact id (by with_unfolding_all rfl)) | (exact Or.inl rfl) | (exact Or.inl trivial) | (exact okL_map _ (fun _ => rfl) _) | (simp only [List.length_map, List.length_set, List.length_replicate, List.length_cons, List.length_nil, List.length_append] <;> omega) | fail) only [VV0, VV1, VV2, VV3, VV4, VV5, VV6, VV7, mkFnV, vargs, slotsL, opdsA, not_true_eq_false, not_false_eq_true, decide_true, decide_false, Option.map_some, Option.bind_some, List.cons_append, List.nil_append, List.map_cons, List.map_nil, List.append_nil, Option.toList_some, Option.toList_none, Nat.reduceEqDiff, Nat.reduceLT, Nat.reduceAdd, Nat.reduceBEq, Int.reduceAdd, Int.reduceSub, Int.reduceLT, Int.reduceLE, Int.reduceEq, Int.reduceNeg, ↓reduceIte, if_true, if_false, Bool.false_eq_true, Bool.not_true, Bool.not_false, List.length_cons, List.length_nil, List.length_singleton, reduceCtorEq, Int.toNat_natCast, Nat.zero_add, Nat.add_zero, Nat.mul_one, Int.add_sub_cancel, eq_self, List.drop_zero, List.drop_succ_cons, Option.some.injEq, Prod.mk.injEq, Bool.and_true, Bool.true_and, Bool.and_self, true_or, List.set_cons_zero, List.set_cons_succ, scL, scD, expand, List.replicate, c41]) | (refine gC_drawW ?_) | (refine gI_dec (fun _ => ?_) (fun _ => ?_)) | (refine gG_dec (fun _ => ?_) (fun _ => ?_)) | (refine gPG_dec (fun _ => ?_) (fun _ => ?_)) | (refine gI_var (fun _ => ?_) (fun _ => ?_)) | (refine gG_var (fun _ => ?_) (fun _ => ?_)) | (refine gPG_var (fun _ => ?_) (fun _ => ?_)))
  exact weak_to [] 0 hn rfl rfl rfl rfl
theorem turnEven_p (s m : Nat) (i : Nat) (hi : i ≤ 4000) (h2 : i % 2 = 0) (c : List D) (hs : s ≠ 1 ∨ m ≠ 0) : VSpec (EN w (n + 2)) 39 [.agg [], .sl s m c, .sc (.int .i64 i)] (.sl s m c) ⟨[], 0, 0⟩ := by
  refine vspec_g rfl rfl (fun _ _ => rfl) (Nat.le_of_ble_eq_true rfl) (oldVals w) (retOK_nil ?_) rfl fun C hC hn => ?_
  · simp only [Cl, okD, Bool.or_eq_true, Bool.not_eq_true', nbf]; exact hs
  have e : (i : Int) % 2 = 0 := by omega
  repeat' (first | (simp (disch := first | omega | assumption | (refine @id ((_ : Bool) = _) ?_; exact id (by with_unfolding_all rfl)) | (exact Or.inl rfl) | (exact Or.inl trivial) | (exact okL_map _ (fun _ => rfl) _) | (simp only [List.length_map, List.length_set, List.length_replicate, List.length_cons, List.length_nil, List.length_append] <;> omega) | fail) only [VV0, VV1, VV2, VV3, VV4, VV5, VV6, VV7, mkFnV, vargs, slotsL, opdsA, not_true_eq_false, not_false_eq_true, decide_true, decide_false, Option.map_some, Option.bind_some, List.cons_append, List.nil_append, List.map_cons, List.map_nil, List.append_nil, Option.toList_some, Option.toList_none, Nat.reduceEqDiff, Nat.reduceLT, Nat.reduceAdd, Nat.reduceBEq, Int.reduceAdd, Int.reduceSub, Int.reduceLT, Int.reduceLE, Int.reduceEq, Int.reduceNeg, ↓reduceIte, if_true, if_false, Bool.false_eq_true, Bool.not_true, Bool.not_false, List.length_cons, List.length_nil, List.length_singleton, reduceCtorEq, Int.toNat_natCast, Nat.zero_add, Nat.add_zero, Nat.mul_one, Int.add_sub_cancel, eq_self, List.drop_zero, List.drop_succ_cons, Option.some.injEq, Prod.mk.injEq, Bool.and_true, Bool.true_and, Bool.and_self, true_or, List.set_cons_zero, List.set_cons_succ, scL, scD, expand, List.replicate, c39]) | (refine gC_drawW ?_) | (refine gI_dec (fun _ => ?_) (fun _ => ?_)) | (refine gG_dec (fun _ => ?_) (fun _ => ?_)) | (refine gPG_dec (fun _ => ?_) (fun _ => ?_)) | (refine gI_var (fun _ => ?_) (fun _ => ?_)) | (refine gG_var (fun _ => ?_) (fun _ => ?_)) | (refine gPG_var (fun _ => ?_) (fun _ => ?_)))
  exact weak_to [] 0 hn rfl rfl rfl rfl
theorem turnOdd_p (s : Nat) (i : Nat) (hi : i ≤ 4000) (h2 : i % 2 = 1) (l : List Int) (hl : l.length ≤ 100000000000) (h0 : 0 < l.length) : VSpec (EN w (n + 2)) 39 [.agg [], .sl s l.length (l.map iD), .sc (.int .i64 i)] (.gr 2 0 l.length) ⟨[(0, .gro 3 1 false (l.reverse.map iD))], 1, 0⟩ := by
  refine vspec_g rfl rfl (fun _ _ => rfl) (Nat.le_of_ble_eq_true rfl) (oldVals w) (retOK_gr (map_nil_iff (by simp))) rfl fun C hC hn => ?_
  have e : (i : Int) % 2 = 1 := by omega
  repeat' (first | (simp (disch := first | omega | assumption | (refine @id ((_ : Bool) = _) ?_; exact id (by with_unfolding_all rfl)) | (exact Or.inl rfl) | (exact Or.inl trivial) | (exact okL_map _ (fun _ => rfl) _) | (simp only [List.length_map, List.length_set, List.length_replicate, List.length_cons, List.length_nil, List.length_append] <;> omega) | fail) only [VV0, VV1, VV2, VV3, VV4, VV5, VV6, VV7, mkFnV, vargs, slotsL, opdsA, not_true_eq_false, not_false_eq_true, decide_true, decide_false, Option.map_some, Option.bind_some, List.cons_append, List.nil_append, List.map_cons, List.map_nil, List.append_nil, Option.toList_some, Option.toList_none, Nat.reduceEqDiff, Nat.reduceLT, Nat.reduceAdd, Nat.reduceBEq, Int.reduceAdd, Int.reduceSub, Int.reduceLT, Int.reduceLE, Int.reduceEq, Int.reduceNeg, ↓reduceIte, if_true, if_false, Bool.false_eq_true, Bool.not_true, Bool.not_false, List.length_cons, List.length_nil, List.length_singleton, reduceCtorEq, Int.toNat_natCast, Nat.zero_add, Nat.add_zero, Nat.mul_one, Int.add_sub_cancel, eq_self, List.drop_zero, List.drop_succ_cons, Option.some.injEq, Prod.mk.injEq, Bool.and_true, Bool.true_and, Bool.and_self, true_or, List.set_cons_zero, List.set_cons_succ, scL, scD, expand, List.replicate, c39]) | (refine gC_drawW ?_) | (refine gI_dec (fun _ => ?_) (fun _ => ?_)) | (refine gG_dec (fun _ => ?_) (fun _ => ?_)) | (refine gPG_dec (fun _ => ?_) (fun _ => ?_)) | (refine gI_var (fun _ => ?_) (fun _ => ?_)) | (refine gG_var (fun _ => ?_) (fun _ => ?_)) | (refine gPG_var (fun _ => ?_) (fun _ => ?_)))
  refine callV_of (by rw [hC]; exact clone_p w n s l hl h0) rfl rfl rfl ?_
  repeat' (first | (simp (disch := first | omega | assumption | (refine @id ((_ : Bool) = _) ?_; exact id (by with_unfolding_all rfl)) | (exact Or.inl rfl) | (exact Or.inl trivial) | (exact okL_map _ (fun _ => rfl) _) | (simp only [List.length_map, List.length_set, List.length_replicate, List.length_cons, List.length_nil, List.length_append] <;> omega) | fail) only [VV0, VV1, VV2, VV3, VV4, VV5, VV6, VV7, mkFnV, vargs, slotsL, opdsA, not_true_eq_false, not_false_eq_true, decide_true, decide_false, Option.map_some, Option.bind_some, List.cons_append, List.nil_append, List.map_cons, List.map_nil, List.append_nil, Option.toList_some, Option.toList_none, Nat.reduceEqDiff, Nat.reduceLT, Nat.reduceAdd, Nat.reduceBEq, Int.reduceAdd, Int.reduceSub, Int.reduceLT, Int.reduceLE, Int.reduceEq, Int.reduceNeg, ↓reduceIte, if_true, if_false, Bool.false_eq_true, Bool.not_true, Bool.not_false, List.length_cons, List.length_nil, List.length_singleton, reduceCtorEq, Int.toNat_natCast, Nat.zero_add, Nat.add_zero, Nat.mul_one, Int.add_sub_cancel, eq_self, List.drop_zero, List.drop_succ_cons, Option.some.injEq, Prod.mk.injEq, Bool.and_true, Bool.true_and, Bool.and_self, true_or, List.set_cons_zero, List.set_cons_succ, scL, scD, expand, List.replicate, vsh, shH, shO, fzSL, fzS]) | (refine gC_drawW ?_) | (refine gI_dec (fun _ => ?_) (fun _ => ?_)) | (refine gG_dec (fun _ => ?_) (fun _ => ?_)) | (refine gPG_dec (fun _ => ?_) (fun _ => ?_)) | (refine gI_var (fun _ => ?_) (fun _ => ?_)) | (refine gG_var (fun _ => ?_) (fun _ => ?_)) | (refine gPG_var (fun _ => ?_) (fun _ => ?_)))
  refine reverse_w w n hC 1 3 2 l hl rfl (Nat.zero_le _) ?_
  repeat' (first | (simp (disch := first | omega | assumption | (refine @id ((_ : Bool) = _) ?_; exact id (by with_unfolding_all rfl)) | (exact Or.inl rfl) | (exact Or.inl trivial) | (exact okL_map _ (fun _ => rfl) _) | (simp only [List.length_map, List.length_set, List.length_replicate, List.length_cons, List.length_nil, List.length_append] <;> omega) | fail) only [VV0, VV1, VV2, VV3, VV4, VV5, VV6, VV7, mkFnV, vargs, slotsL, opdsA, not_true_eq_false, not_false_eq_true, decide_true, decide_false, Option.map_some, Option.bind_some, List.cons_append, List.nil_append, List.map_cons, List.map_nil, List.append_nil, Option.toList_some, Option.toList_none, Nat.reduceEqDiff, Nat.reduceLT, Nat.reduceAdd, Nat.reduceBEq, Int.reduceAdd, Int.reduceSub, Int.reduceLT, Int.reduceLE, Int.reduceEq, Int.reduceNeg, ↓reduceIte, if_true, if_false, Bool.false_eq_true, Bool.not_true, Bool.not_false, List.length_cons, List.length_nil, List.length_singleton, reduceCtorEq, Int.toNat_natCast, Nat.zero_add, Nat.add_zero, Nat.mul_one, Int.add_sub_cancel, eq_self, List.drop_zero, List.drop_succ_cons, Option.some.injEq, Prod.mk.injEq, Bool.and_true, Bool.true_and, Bool.and_self, true_or, List.set_cons_zero, List.set_cons_succ, scL, scD, expand, List.replicate]) | (refine gC_drawW ?_) | (refine gI_dec (fun _ => ?_) (fun _ => ?_)) | (refine gG_dec (fun _ => ?_) (fun _ => ?_)) | (refine gPG_dec (fun _ => ?_) (fun _ => ?_)) | (refine gI_var (fun _ => ?_) (fun _ => ?_)) | (refine gG_var (fun _ => ?_) (fun _ => ?_)) | (refine gPG_var (fun _ => ?_) (fun _ => ?_)))
  exact weak_to [(1, 0)] 1 hn rfl rfl rfl rfl
end
end Go.Proofs.Ytgglaaldlegckaa
namespace Go.Proofs.Ytgglaaldlegckaa
open Go Go.Itp
set_option maxRecDepth 100000
set_option maxHeartbeats 1000000
set_option linter.unusedSimpArgs false
abbrev wayV (t : Bool) : V := .ifc (if t = true then 45 else 46) (.agg [])
section
variable (w : World) (n : Nat)
theorem of_p (t : Bool) : VSpec (EN w (n + 1)) 14 [.sc (.bool t)] (wayV t) ⟨[], 0, 0⟩ := by
  refine vspec_flat rfl rfl (fun _ _ => rfl) (Nat.le_of_ble_eq_true rfl) (oldVals w) rfl fun C hC h0 => ?_
  cases t
  all_goals
    repeat' (first | (simp (disch := first | omega | assumption | (refine @id ((_ : Bool) = _) ?_; exact id (by with_unfolding_all rfl)) | (exact Or.inl rfl) | (exact Or.inl trivial) | (exact okL_map _ (fun _ => rfl) _) | (simp only [List.length_map, List.length_set, List.length_replicate, List.length_cons, List.length_nil, List.length_append] <;> omega) | fail) only [VV0, VV1, VV2, VV3, VV4, VV5, VV6, VV7, mkFnV, vargs, slotsL, opdsA, not_true_eq_false, not_false_eq_true, decide_true, decide_false, Option.map_some, Option.bind_some, List.cons_append, List.nil_append, List.map_cons, List.map_nil, List.append_nil, Option.toList_some, Option.toList_none, Nat.reduceEqDiff, Nat.reduceLT, Nat.reduceAdd, Nat.reduceBEq, Int.reduceAdd, Int.reduceSub, Int.reduceLT, Int.reduceLE, Int.reduceEq, Int.reduceNeg, ↓reduceIte, if_true, if_false, Bool.false_eq_true, Bool.not_true, Bool.not_false, List.length_cons, List.length_nil, List.length_singleton, reduceCtorEq, Int.toNat_natCast, Nat.zero_add, Nat.add_zero, Nat.mul_one, Int.add_sub_cancel, eq_self, List.drop_zero, List.drop_succ_cons, Option.some.injEq, Prod.mk.injEq, Bool.and_true, Bool.true_and, Bool.and_self, true_or, List.set_cons_zero, List.set_cons_succ, scL, scD, expand, List.replicate, c14, wayV, mkIfV]) | (refine gC_drawW ?_) | (refine gI_dec (fun _ => ?_) (fun _ => ?_)) | (refine gG_dec (fun _ => ?_) (fun _ => ?_)) | (refine gPG_dec (fun _ => ?_) (fun _ => ?_)) | (refine gI_var (fun _ => ?_) (fun _ => ?_)) | (refine gG_var (fun _ => ?_) (fun _ => ?_)) | (refine gPG_var (fun _ => ?_) (fun _ => ?_)))
    exact weak_flat rfl h0 rfl
theorem wind_g (t : Bool) (s : Nat) (l : List Int) (p : Nat) (h0 : 0 < l.length) (hl : l.length ≤ 5000) (hp : p ≤ 4000) {C : Ctx} (hC : C.E = EN w (n + 2)) (hn : C.w0.nx = 0) :
    gC C c13.code [] (vargs 0 [wayV t, .sl s l.length (l.map iD), .sc (.int .i64 p)]) ⟨[], 0, 0⟩ (RetV C c13.res (.gr 2 0 (windP l t p).length) ⟨[(0, .gro 3 1 false ((windP l t p).map iD))], 1, 0⟩) := by
  simp (disch := first | omega | assumption | (refine @id ((_ : Bool) = _) ?_; exact id (by with_unfolding_all rfl)) | (exact Or.inl rfl) | (exact Or.inl trivial) | (exact okL_map _ (fun _ => rfl) _) | (simp only [List.length_map, List.length_set, List.length_replicate, List.length_cons, List.length_nil, List.length_append] <;> omega) | fail) only [VV0, VV1, VV2, VV3, VV4, VV5, VV6, VV7, mkFnV, vargs, slotsL, opdsA, not_true_eq_false, not_false_eq_true, decide_true, decide_false, Option.map_some, Option.bind_some, List.cons_append, List.nil_append, List.map_cons, List.map_nil, List.append_nil, Option.toList_some, Option.toList_none, Nat.reduceEqDiff, Nat.reduceLT, Nat.reduceAdd, Nat.reduceBEq, Int.reduceAdd, Int.reduceSub, Int.reduceLT, Int.reduceLE, Int.reduceEq, Int.reduceNeg, ↓reduceIte, if_true, if_false, Bool.false_eq_true, Bool.not_true, Bool.not_false, List.length_cons, List.length_nil, List.length_singleton, reduceCtorEq, Int.toNat_natCast, Nat.zero_add, Nat.add_zero, Nat.mul_one, Int.add_sub_cancel, eq_self, List.drop_zero, List.drop_succ_cons, Option.some.injEq, Prod.mk.injEq, Bool.and_true, Bool.true_and, Bool.and_self, true_or, List.set_cons_zero, List.set_cons_succ, scL, scD, expand, List.replicate, c13]
  refine g_while (fun m fr st => ∃ k : Nat, m = p - k ∧ k ≤ p ∧ fr = [(0, wayV t), (1, .sl s l.length (l.map iD)), (7, .gr 2 0 (windP l t k).length), (9, .sc (.int .i64 p)), (10, .sc (.int .i64 k))] ∧ st = ⟨[(0, .gro 3 1 false ((windP l t k).map iD))], 1, 0⟩) p ?_ ⟨_, _, weak_nilSlot 7 3 1 rfl, 0, ?_⟩ ?_
  · rw [hC, callP_rounds]; unfold many; omega
  · exact ⟨by omega, by omega, rfl, rfl⟩
  · rintro m fr st ⟨k, rfl, hk, rfl, rfl⟩
    by_cases hlt : k < p
    · have hwl := windP_len l t k
      have hwb : (windP l t k).length ≤ 20000000 := by rw [hwl]; exact Nat.le_trans (Nat.mul_le_mul (show k ≤ 4000 by omega) hl) (by omega)
      have hlk : ((windP l t k).map iD).length = (windP l t k).length * 1 := by simp
      have hll : (l.map iD).length = l.length * 1 := by simp
      have hlr : (l.reverse.map iD).length = l.length * 1 := by simp
      have hne : l.length ≠ 0 := by omega
      cases t
      · repeat' (first | (simp (disch := first | omega | assumption | (refine @id ((_ : Bool) = _) ?_; exact id (by with_unfolding_all rfl)) | (exact Or.inl rfl) | (exact Or.inl trivial) | (exact okL_map _ (fun _ => rfl) _) | (simp only [List.length_map, List.length_set, List.length_replicate, List.length_cons, List.length_nil, List.length_append] <;> omega) | fail) only [VV0, VV1, VV2, VV3, VV4, VV5, VV6, VV7, mkFnV, vargs, slotsL, opdsA, not_true_eq_false, not_false_eq_true, decide_true, decide_false, Option.map_some, Option.bind_some, List.cons_append, List.nil_append, List.map_cons, List.map_nil, List.append_nil, Option.toList_some, Option.toList_none, Nat.reduceEqDiff, Nat.reduceLT, Nat.reduceAdd, Nat.reduceBEq, Int.reduceAdd, Int.reduceSub, Int.reduceLT, Int.reduceLE, Int.reduceEq, Int.reduceNeg, ↓reduceIte, if_true, if_false, Bool.false_eq_true, Bool.not_true, Bool.not_false, List.length_cons, List.length_nil, List.length_singleton, reduceCtorEq, Int.toNat_natCast, Nat.zero_add, Nat.add_zero, Nat.mul_one, Int.add_sub_cancel, eq_self, List.drop_zero, List.drop_succ_cons, Option.some.injEq, Prod.mk.injEq, Bool.and_true, Bool.true_and, Bool.and_self, true_or, List.set_cons_zero, List.set_cons_succ, scL, scD, expand, List.replicate, c13l0, wayV]) | (refine gC_drawW ?_) | (refine gI_dec (fun _ => ?_) (fun _ => ?_)) | (refine gG_dec (fun _ => ?_) (fun _ => ?_)) | (refine gPG_dec (fun _ => ?_) (fun _ => ?_)) | (refine gI_var (fun _ => ?_) (fun _ => ?_)) | (refine gG_var (fun _ => ?_) (fun _ => ?_)) | (refine gPG_var (fun _ => ?_) (fun _ => ?_)))
        refine callV_of (by rw [hC]; exact straight_p w (n + 1) s l.length k (l.map iD) (.inr hne)) rfl rfl rfl ?_
        repeat' (first | (simp (disch := first | omega | assumption | (refine @id ((_ : Bool) = _) ?_; exact id (by with_unfolding_all rfl)) | (exact Or.inl rfl) | (exact Or.inl trivial) | (exact okL_map _ (fun _ => rfl) _) | (simp only [List.length_map, List.length_set, List.length_replicate, List.length_cons, List.length_nil, List.length_append] <;> omega) | fail) only [VV0, VV1, VV2, VV3, VV4, VV5, VV6, VV7, mkFnV, vargs, slotsL, opdsA, not_true_eq_false, not_false_eq_true, decide_true, decide_false, Option.map_some, Option.bind_some, List.cons_append, List.nil_append, List.map_cons, List.map_nil, List.append_nil, Option.toList_some, Option.toList_none, Nat.reduceEqDiff, Nat.reduceLT, Nat.reduceAdd, Nat.reduceBEq, Int.reduceAdd, Int.reduceSub, Int.reduceLT, Int.reduceLE, Int.reduceEq, Int.reduceNeg, ↓reduceIte, if_true, if_false, Bool.false_eq_true, Bool.not_true, Bool.not_false, List.length_cons, List.length_nil, List.length_singleton, reduceCtorEq, Int.toNat_natCast, Nat.zero_add, Nat.add_zero, Nat.mul_one, Int.add_sub_cancel, eq_self, List.drop_zero, List.drop_succ_cons, Option.some.injEq, Prod.mk.injEq, Bool.and_true, Bool.true_and, Bool.and_self, true_or, List.set_cons_zero, List.set_cons_succ, scL, scD, expand, List.replicate, vsh, shH, fzSL, fzS]) | (refine gC_drawW ?_) | (refine gI_dec (fun _ => ?_) (fun _ => ?_)) | (refine gG_dec (fun _ => ?_) (fun _ => ?_)) | (refine gPG_dec (fun _ => ?_) (fun _ => ?_)) | (refine gI_var (fun _ => ?_) (fun _ => ?_)) | (refine gG_var (fun _ => ?_) (fun _ => ?_)) | (refine gPG_var (fun _ => ?_) (fun _ => ?_)))
        refine ⟨_, _, _, by omega, weak_to [(1, 0)] 1 hn rfl rfl rfl rfl, k + 1, rfl, hlt, ?_, ?_⟩
        · simp [windP, renF, vren, vrenL, aget_cons]
        · simp [windP, renH, aget_cons, renO]
      · rcases Nat.mod_two_eq_zero_or_one k with hpar | hpar
        · repeat' (first | (simp (disch := first | omega | assumption | (refine @id ((_ : Bool) = _) ?_; exact id (by with_unfolding_all rfl)) | (exact Or.inl rfl) | (exact Or.inl trivial) | (exact okL_map _ (fun _ => rfl) _) | (simp only [List.length_map, List.length_set, List.length_replicate, List.length_cons, List.length_nil, List.length_append] <;> omega) | fail) only [VV0, VV1, VV2, VV3, VV4, VV5, VV6, VV7, mkFnV, vargs, slotsL, opdsA, not_true_eq_false, not_false_eq_true, decide_true, decide_false, Option.map_some, Option.bind_some, List.cons_append, List.nil_append, List.map_cons, List.map_nil, List.append_nil, Option.toList_some, Option.toList_none, Nat.reduceEqDiff, Nat.reduceLT, Nat.reduceAdd, Nat.reduceBEq, Int.reduceAdd, Int.reduceSub, Int.reduceLT, Int.reduceLE, Int.reduceEq, Int.reduceNeg, ↓reduceIte, if_true, if_false, Bool.false_eq_true, Bool.not_true, Bool.not_false, List.length_cons, List.length_nil, List.length_singleton, reduceCtorEq, Int.toNat_natCast, Nat.zero_add, Nat.add_zero, Nat.mul_one, Int.add_sub_cancel, eq_self, List.drop_zero, List.drop_succ_cons, Option.some.injEq, Prod.mk.injEq, Bool.and_true, Bool.true_and, Bool.and_self, true_or, List.set_cons_zero, List.set_cons_succ, scL, scD, expand, List.replicate, c13l0, wayV]) | (refine gC_drawW ?_) | (refine gI_dec (fun _ => ?_) (fun _ => ?_)) | (refine gG_dec (fun _ => ?_) (fun _ => ?_)) | (refine gPG_dec (fun _ => ?_) (fun _ => ?_)) | (refine gI_var (fun _ => ?_) (fun _ => ?_)) | (refine gG_var (fun _ => ?_) (fun _ => ?_)) | (refine gPG_var (fun _ => ?_) (fun _ => ?_)))
          refine callV_of (by rw [hC]; exact turnEven_p w n s l.length k (by omega) hpar (l.map iD) (.inr hne)) rfl rfl rfl ?_
          repeat' (first | (simp (disch := first | omega | assumption | (refine @id ((_ : Bool) = _) ?_; exact id (by with_unfolding_all rfl)) | (exact Or.inl rfl) | (exact Or.inl trivial) | (exact okL_map _ (fun _ => rfl) _) | (simp only [List.length_map, List.length_set, List.length_replicate, List.length_cons, List.length_nil, List.length_append] <;> omega) | fail) only [VV0, VV1, VV2, VV3, VV4, VV5, VV6, VV7, mkFnV, vargs, slotsL, opdsA, not_true_eq_false, not_false_eq_true, decide_true, decide_false, Option.map_some, Option.bind_some, List.cons_append, List.nil_append, List.map_cons, List.map_nil, List.append_nil, Option.toList_some, Option.toList_none, Nat.reduceEqDiff, Nat.reduceLT, Nat.reduceAdd, Nat.reduceBEq, Int.reduceAdd, Int.reduceSub, Int.reduceLT, Int.reduceLE, Int.reduceEq, Int.reduceNeg, ↓reduceIte, if_true, if_false, Bool.false_eq_true, Bool.not_true, Bool.not_false, List.length_cons, List.length_nil, List.length_singleton, reduceCtorEq, Int.toNat_natCast, Nat.zero_add, Nat.add_zero, Nat.mul_one, Int.add_sub_cancel, eq_self, List.drop_zero, List.drop_succ_cons, Option.some.injEq, Prod.mk.injEq, Bool.and_true, Bool.true_and, Bool.and_self, true_or, List.set_cons_zero, List.set_cons_succ, scL, scD, expand, List.replicate, vsh, shH, fzSL, fzS]) | (refine gC_drawW ?_) | (refine gI_dec (fun _ => ?_) (fun _ => ?_)) | (refine gG_dec (fun _ => ?_) (fun _ => ?_)) | (refine gPG_dec (fun _ => ?_) (fun _ => ?_)) | (refine gI_var (fun _ => ?_) (fun _ => ?_)) | (refine gG_var (fun _ => ?_) (fun _ => ?_)) | (refine gPG_var (fun _ => ?_) (fun _ => ?_)))
          refine ⟨_, _, _, by omega, weak_to [(1, 0)] 1 hn rfl rfl rfl rfl, k + 1, rfl, hlt, ?_, ?_⟩
          · simp [windP, renF, vren, vrenL, aget_cons, hpar]
          · simp [windP, renH, aget_cons, renO, hpar]
        · repeat' (first | (simp (disch := first | omega | assumption | (refine @id ((_ : Bool) = _) ?_; exact id (by with_unfolding_all rfl)) | (exact Or.inl rfl) | (exact Or.inl trivial) | (exact okL_map _ (fun _ => rfl) _) | (simp only [List.length_map, List.length_set, List.length_replicate, List.length_cons, List.length_nil, List.length_append] <;> omega) | fail) only [VV0, VV1, VV2, VV3, VV4, VV5, VV6, VV7, mkFnV, vargs, slotsL, opdsA, not_true_eq_false, not_false_eq_true, decide_true, decide_false, Option.map_some, Option.bind_some, List.cons_append, List.nil_append, List.map_cons, List.map_nil, List.append_nil, Option.toList_some, Option.toList_none, Nat.reduceEqDiff, Nat.reduceLT, Nat.reduceAdd, Nat.reduceBEq, Int.reduceAdd, Int.reduceSub, Int.reduceLT, Int.reduceLE, Int.reduceEq, Int.reduceNeg, ↓reduceIte, if_true, if_false, Bool.false_eq_true, Bool.not_true, Bool.not_false, List.length_cons, List.length_nil, List.length_singleton, reduceCtorEq, Int.toNat_natCast, Nat.zero_add, Nat.add_zero, Nat.mul_one, Int.add_sub_cancel, eq_self, List.drop_zero, List.drop_succ_cons, Option.some.injEq, Prod.mk.injEq, Bool.and_true, Bool.true_and, Bool.and_self, true_or, List.set_cons_zero, List.set_cons_succ, scL, scD, expand, List.replicate, c13l0, wayV]) | (refine gC_drawW ?_) | (refine gI_dec (fun _ => ?_) (fun _ => ?_)) | (refine gG_dec (fun _ => ?_) (fun _ => ?_)) | (refine gPG_dec (fun _ => ?_) (fun _ => ?_)) | (refine gI_var (fun _ => ?_) (fun _ => ?_)) | (refine gG_var (fun _ => ?_) (fun _ => ?_)) | (refine gPG_var (fun _ => ?_) (fun _ => ?_)))
          refine callV_of (by rw [hC]; exact turnOdd_p w n s k (by omega) hpar l (by omega) h0) rfl rfl rfl ?_
          repeat' (first | (simp (disch := first | omega | assumption | (refine @id ((_ : Bool) = _) ?_; exact id (by with_unfolding_all rfl)) | (exact Or.inl rfl) | (exact Or.inl trivial) | (exact okL_map _ (fun _ => rfl) _) | (simp only [List.length_map, List.length_set, List.length_replicate, List.length_cons, List.length_nil, List.length_append] <;> omega) | fail) only [VV0, VV1, VV2, VV3, VV4, VV5, VV6, VV7, mkFnV, vargs, slotsL, opdsA, not_true_eq_false, not_false_eq_true, decide_true, decide_false, Option.map_some, Option.bind_some, List.cons_append, List.nil_append, List.map_cons, List.map_nil, List.append_nil, Option.toList_some, Option.toList_none, Nat.reduceEqDiff, Nat.reduceLT, Nat.reduceAdd, Nat.reduceBEq, Int.reduceAdd, Int.reduceSub, Int.reduceLT, Int.reduceLE, Int.reduceEq, Int.reduceNeg, ↓reduceIte, if_true, if_false, Bool.false_eq_true, Bool.not_true, Bool.not_false, List.length_cons, List.length_nil, List.length_singleton, reduceCtorEq, Int.toNat_natCast, Nat.zero_add, Nat.add_zero, Nat.mul_one, Int.add_sub_cancel, eq_self, List.drop_zero, List.drop_succ_cons, Option.some.injEq, Prod.mk.injEq, Bool.and_true, Bool.true_and, Bool.and_self, true_or, List.set_cons_zero, List.set_cons_succ, scL, scD, expand, List.replicate, vsh, shH, shO, fzSL, fzS]) | (refine gC_drawW ?_) | (refine gI_dec (fun _ => ?_) (fun _ => ?_)) | (refine gG_dec (fun _ => ?_) (fun _ => ?_)) | (refine gPG_dec (fun _ => ?_) (fun _ => ?_)) | (refine gI_var (fun _ => ?_) (fun _ => ?_)) | (refine gG_var (fun _ => ?_) (fun _ => ?_)) | (refine gPG_var (fun _ => ?_) (fun _ => ?_)))
          refine ⟨_, _, _, by omega, weak_to [(2, 0)] 1 hn rfl rfl rfl rfl, k + 1, rfl, hlt, ?_, ?_⟩
          · simp [windP, renF, vren, vrenL, aget_cons, hpar]
          · simp [windP, renH, aget_cons, renO, hpar]
    · have : k = p := by omega
      subst this
      repeat' (first | (simp (disch := first | omega | assumption | (refine @id ((_ : Bool) = _) ?_; exact id (by with_unfolding_all rfl)) | (exact Or.inl rfl) | (exact Or.inl trivial) | (exact okL_map _ (fun _ => rfl) _) | (simp only [List.length_map, List.length_set, List.length_replicate, List.length_cons, List.length_nil, List.length_append] <;> omega) | fail) only [VV0, VV1, VV2, VV3, VV4, VV5, VV6, VV7, mkFnV, vargs, slotsL, opdsA, not_true_eq_false, not_false_eq_true, decide_true, decide_false, Option.map_some, Option.bind_some, List.cons_append, List.nil_append, List.map_cons, List.map_nil, List.append_nil, Option.toList_some, Option.toList_none, Nat.reduceEqDiff, Nat.reduceLT, Nat.reduceAdd, Nat.reduceBEq, Int.reduceAdd, Int.reduceSub, Int.reduceLT, Int.reduceLE, Int.reduceEq, Int.reduceNeg, ↓reduceIte, if_true, if_false, Bool.false_eq_true, Bool.not_true, Bool.not_false, List.length_cons, List.length_nil, List.length_singleton, reduceCtorEq, Int.toNat_natCast, Nat.zero_add, Nat.add_zero, Nat.mul_one, Int.add_sub_cancel, eq_self, List.drop_zero, List.drop_succ_cons, Option.some.injEq, Prod.mk.injEq, Bool.and_true, Bool.true_and, Bool.and_self, true_or, List.set_cons_zero, List.set_cons_succ, scL, scD, expand, List.replicate, c13l0]) | (refine gC_drawW ?_) | (refine gI_dec (fun _ => ?_) (fun _ => ?_)) | (refine gG_dec (fun _ => ?_) (fun _ => ?_)) | (refine gPG_dec (fun _ => ?_) (fun _ => ?_)) | (refine gI_var (fun _ => ?_) (fun _ => ?_)) | (refine gG_var (fun _ => ?_) (fun _ => ?_)) | (refine gPG_var (fun _ => ?_) (fun _ => ?_)))
      exact .refl _ _
theorem wind_p (t : Bool) (s : Nat) (l : List Int) (p : Nat) (h0 : 0 < l.length) (hl : l.length ≤ 5000) (hp : p ≤ 4000) :
    VSpec (EN w (n + 3)) 13 [wayV t, .sl s l.length (l.map iD), .sc (.int .i64 p)] (.gr 2 0 (windP l t p).length) ⟨[(0, .gro 3 1 false ((windP l t p).map iD))], 1, 0⟩ :=
  vspec_g rfl rfl (fun _ _ => rfl) (Nat.le_of_ble_eq_true rfl) (oldVals w) (retOK_gr (map_nil_iff rfl)) rfl fun C hC hn => wind_g w n t s l p h0 hl hp hC hn
theorem wind_1 (t : Bool) (s : Nat) (l : List Int) (p : Nat) (h0 : 0 < l.length) (hl : l.length ≤ 5000) (hp : p ≤ 4000) (hp0 : 0 < p) :
    VSpec1 (EN w (n + 3)) 13 ⟨[], 0, 0⟩ [wayV t, .sl s l.length (l.map iD), .sc (.int .i64 p)] (.gr 2 0 (windP l t p).length) (.gro 3 1 false ((windP l t p).map iD)) := by
  have hpos : 0 < (windP l t p).length := by rw [windP_len]; exact Nat.mul_pos hp0 h0
  refine vspec1_g rfl rfl (fun _ _ => rfl) (Nat.le_of_ble_eq_true rfl) (by omega) (fun e => by have := congrArg List.length e; simp at this; rw [this] at hpos; simp at hpos) (fun d hd => ?_) fun _ hC hn => ⟨_, 0, rfl, Nat.le_refl _, wind_g w n t s l p h0 hl hp hC hn⟩
  rw [List.mem_map] at hd
  obtain ⟨x, _, rfl⟩ := hd
  exact ⟨_, rfl⟩
end
end Go.Proofs.Ytgglaaldlegckaa
namespace Go.Proofs.Ytgglaaldlegckaa
open Go Go.Itp
set_option maxRecDepth 100000
set_option maxHeartbeats 1000000
set_option linter.unusedSimpArgs false
def cone (i n : Nat) (t : Bool) : Nat := if t = true ∧ i / n % 2 = 1 then n - 1 - i % n else i % n
theorem cone_lt {i n : Nat} (t : Bool) (h : 0 < n) : cone i n t < n := by
  unfold cone
  have := Nat.mod_lt i h
  split <;> omega
def windR (l : List Int) (t : Bool) (N : Nat) : List Int := (List.range N).map fun i => l[cone i l.length t]!
theorem windR_len (l : List Int) (t : Bool) (N : Nat) : (windR l t N).length = N := by simp [windR]
theorem windR_step (l : List Int) (t : Bool) (N : Nat) : windR l t (N + 1) = windR l t N ++ [l[cone N l.length t]!] := by simp [windR, List.range_succ]
theorem windR_get (l : List Int) (t : Bool) (N i : Nat) (h : i < N) : (windR l t N)[i]! = l[cone i l.length t]! := by
  rw [getElem!_pos _ _ (by rw [windR_len]; exact h)]
  simp [windR]
theorem wind_eq (l : List Int) (t : Bool) (h : 0 < l.length) : ∀ p, windP l t p = windR l t (p * l.length)
  | 0 => by simp [windP, windR]
  | p + 1 => by
    have key : windR l t ((p + 1) * l.length) = windR l t (p * l.length) ++ (List.range l.length).map fun j => l[cone (p * l.length + j) l.length t]! := by
      unfold windR
      rw [Nat.add_mul, Nat.one_mul, List.range_add, List.map_append, List.map_map]
      rfl
    rw [key, windP, wind_eq l t h p]
    congr 1
    refine List.ext_getElem (by split <;> simp) fun i h1 h2 => ?_
    have hi : i < l.length := by simpa using h2
    have e1 : (p * l.length + i) / l.length = p := by
      rw [Nat.mul_comm, Nat.mul_add_div h, Nat.div_eq_of_lt hi, Nat.add_zero]
    have e2 : (p * l.length + i) % l.length = i := by
      rw [Nat.mul_comm, Nat.mul_add_mod, Nat.mod_eq_of_lt hi]
    simp only [List.getElem_map, List.getElem_range, cone, e1, e2]
    by_cases hc : t = true ∧ p % 2 = 1
    · simp only [if_pos hc]
      rw [List.getElem_reverse, getElem!_pos l (l.length - 1 - i) (by omega)]
    · simp only [if_neg hc]
      rw [getElem!_pos l i hi]
abbrev resV (r : List Int × Int) : V := .tup [.gr 2 0 r.1.length, .sc (.int .i64 r.2)]
abbrev resS (r : List Int × Int) : VSt := ⟨[(0, .gro 3 1 false (r.1.map iD))], 1, 0⟩
def windF (l : List Int) (p : Int) (t : Bool) : List Int × Int :=
  if l.length = 0 ∨ 64 < l.length then ([], 2) else if chk l ≠ 0 then ([], 8) else if p < 0 ∨ 4000 < p then ([], 2) else if 4000 < p * l.length then ([], 4) else (windR l t (p.toNat * l.length), 0)
section
variable (w : World) (n : Nat)
theorem cone_p (i k : Nat) (t : Bool) (hk : 0 < k) (hk2 : k ≤ 5000) (hi : i ≤ 5000) : VSpec (EN w (n + 1)) 16 [.sc (.int .i64 i), .sc (.int .i64 k), .sc (.bool t)] (.sc (.int .i64 (cone i k t))) ⟨[], 0, 0⟩ := by
  refine vspec_flat rfl rfl (fun _ _ => rfl) (Nat.le_of_ble_eq_true rfl) (oldVals w) rfl fun C hC h0 => ?_
  have e1 : (i : Int) / (k : Int) = ((i / k : Nat) : Int) := by simp
  have e2 : (i : Int) % (k : Int) = ((i % k : Nat) : Int) := by simp
  have hq : i / k ≤ i := Nat.div_le_self _ _
  have hr := Nat.mod_lt i hk
  have hc : cone i k t = if t = true ∧ i / k % 2 = 1 then k - 1 - i % k else i % k := rfl
  generalize i / k = q at e1 hq hc
  generalize i % k = r at e2 hr hc
  cases t
  · rw [if_neg (by simp)] at hc
    rw [hc]
    repeat' (first | (simp (disch := first | omega | assumption | (refine @id ((_ : Bool) = _) ?_; exact id (by with_unfolding_all rfl)) | (exact Or.inl rfl) | (exact Or.inl trivial) | (exact okL_map _ (fun _ => rfl) _) | (simp only [List.length_map, List.length_set, List.length_replicate, List.length_cons, List.length_nil, List.length_append] <;> omega) | fail) only [VV0, VV1, VV2, VV3, VV4, VV5, VV6, VV7, mkFnV, vargs, slotsL, opdsA, not_true_eq_false, not_false_eq_true, decide_true, decide_false, Option.map_some, Option.bind_some, List.cons_append, List.nil_append, List.map_cons, List.map_nil, List.append_nil, Option.toList_some, Option.toList_none, Nat.reduceEqDiff, Nat.reduceLT, Nat.reduceAdd, Nat.reduceBEq, Int.reduceAdd, Int.reduceSub, Int.reduceLT, Int.reduceLE, Int.reduceEq, Int.reduceNeg, ↓reduceIte, if_true, if_false, Bool.false_eq_true, Bool.not_true, Bool.not_false, List.length_cons, List.length_nil, List.length_singleton, reduceCtorEq, Int.toNat_natCast, Nat.zero_add, Nat.add_zero, Nat.mul_one, Int.add_sub_cancel, eq_self, List.drop_zero, List.drop_succ_cons, Option.some.injEq, Prod.mk.injEq, Bool.and_true, Bool.true_and, Bool.and_self, true_or, List.set_cons_zero, List.set_cons_succ, scL, scD, expand, List.replicate, c16, e1, e2]) | (refine gC_drawW ?_) | (refine gI_dec (fun _ => ?_) (fun _ => ?_)) | (refine gG_dec (fun _ => ?_) (fun _ => ?_)) | (refine gPG_dec (fun _ => ?_) (fun _ => ?_)) | (refine gI_var (fun _ => ?_) (fun _ => ?_)) | (refine gG_var (fun _ => ?_) (fun _ => ?_)) | (refine gPG_var (fun _ => ?_) (fun _ => ?_)))
    exact weak_flat rfl h0 rfl
  · rcases Nat.mod_two_eq_zero_or_one q with hp | hp
    · rw [if_neg (by omega)] at hc
      rw [hc]
      have hp' : (q : Int) % 2 = 0 := by omega
      repeat' (first | (simp (disch := first | omega | assumption | (refine @id ((_ : Bool) = _) ?_; exact id (by with_unfolding_all rfl)) | (exact Or.inl rfl) | (exact Or.inl trivial) | (exact okL_map _ (fun _ => rfl) _) | (simp only [List.length_map, List.length_set, List.length_replicate, List.length_cons, List.length_nil, List.length_append] <;> omega) | fail) only [VV0, VV1, VV2, VV3, VV4, VV5, VV6, VV7, mkFnV, vargs, slotsL, opdsA, not_true_eq_false, not_false_eq_true, decide_true, decide_false, Option.map_some, Option.bind_some, List.cons_append, List.nil_append, List.map_cons, List.map_nil, List.append_nil, Option.toList_some, Option.toList_none, Nat.reduceEqDiff, Nat.reduceLT, Nat.reduceAdd, Nat.reduceBEq, Int.reduceAdd, Int.reduceSub, Int.reduceLT, Int.reduceLE, Int.reduceEq, Int.reduceNeg, ↓reduceIte, if_true, if_false, Bool.false_eq_true, Bool.not_true, Bool.not_false, List.length_cons, List.length_nil, List.length_singleton, reduceCtorEq, Int.toNat_natCast, Nat.zero_add, Nat.add_zero, Nat.mul_one, Int.add_sub_cancel, eq_self, List.drop_zero, List.drop_succ_cons, Option.some.injEq, Prod.mk.injEq, Bool.and_true, Bool.true_and, Bool.and_self, true_or, List.set_cons_zero, List.set_cons_succ, scL, scD, expand, List.replicate, c16, e1, e2, hp']) | (refine gC_drawW ?_) | (refine gI_dec (fun _ => ?_) (fun _ => ?_)) | (refine gG_dec (fun _ => ?_) (fun _ => ?_)) | (refine gPG_dec (fun _ => ?_) (fun _ => ?_)) | (refine gI_var (fun _ => ?_) (fun _ => ?_)) | (refine gG_var (fun _ => ?_) (fun _ => ?_)) | (refine gPG_var (fun _ => ?_) (fun _ => ?_)))
      exact weak_flat rfl h0 rfl
    · rw [if_pos ⟨rfl, hp⟩] at hc
      have hp' : (q : Int) % 2 = 1 := by omega
      have hv : (k : Int) - 1 - r = ((cone i k true : Nat) : Int) := by rw [hc]; omega
      repeat' (first | (simp (disch := first | omega | assumption | (refine @id ((_ : Bool) = _) ?_; exact id (by with_unfolding_all rfl)) | (exact Or.inl rfl) | (exact Or.inl trivial) | (exact okL_map _ (fun _ => rfl) _) | (simp only [List.length_map, List.length_set, List.length_replicate, List.length_cons, List.length_nil, List.length_append] <;> omega) | fail) only [VV0, VV1, VV2, VV3, VV4, VV5, VV6, VV7, mkFnV, vargs, slotsL, opdsA, not_true_eq_false, not_false_eq_true, decide_true, decide_false, Option.map_some, Option.bind_some, List.cons_append, List.nil_append, List.map_cons, List.map_nil, List.append_nil, Option.toList_some, Option.toList_none, Nat.reduceEqDiff, Nat.reduceLT, Nat.reduceAdd, Nat.reduceBEq, Int.reduceAdd, Int.reduceSub, Int.reduceLT, Int.reduceLE, Int.reduceEq, Int.reduceNeg, ↓reduceIte, if_true, if_false, Bool.false_eq_true, Bool.not_true, Bool.not_false, List.length_cons, List.length_nil, List.length_singleton, reduceCtorEq, Int.toNat_natCast, Nat.zero_add, Nat.add_zero, Nat.mul_one, Int.add_sub_cancel, eq_self, List.drop_zero, List.drop_succ_cons, Option.some.injEq, Prod.mk.injEq, Bool.and_true, Bool.true_and, Bool.and_self, true_or, List.set_cons_zero, List.set_cons_succ, scL, scD, expand, List.replicate, c16, e1, e2, hp', hv]) | (refine gC_drawW ?_) | (refine gI_dec (fun _ => ?_) (fun _ => ?_)) | (refine gG_dec (fun _ => ?_) (fun _ => ?_)) | (refine gPG_dec (fun _ => ?_) (fun _ => ?_)) | (refine gI_var (fun _ => ?_) (fun _ => ?_)) | (refine gG_var (fun _ => ?_) (fun _ => ?_)) | (refine gPG_var (fun _ => ?_) (fun _ => ?_)))
      exact weak_flat rfl h0 rfl
theorem rwind_p (s : Nat) (l : List Int) (p : Int) (t : Bool) (hl : l.length ≤ 5000) : VSpec (EN w (n + 2)) 6 [.sl s l.length (l.map iD), .sc (.int .i64 p), .sc (.bool t)] (resV (windF l p t)) (resS (windF l p t)) := by
  refine vspec_g rfl rfl (fun _ _ => rfl) (Nat.le_of_ble_eq_true rfl) (oldVals w) (retOK_tgr (map_nil_iff rfl)) rfl fun C hC h0 => ?_
  by_cases c1 : l.length = 0 ∨ 64 < l.length
  · have e : windF l p t = ([], 2) := if_pos c1
    rw [e]
    rcases c1 with c1 | c1
    all_goals
      repeat' (first | (simp (disch := first | omega | assumption | (refine @id ((_ : Bool) = _) ?_; exact id (by with_unfolding_all rfl)) | (exact Or.inl rfl) | (exact Or.inl trivial) | (exact okL_map _ (fun _ => rfl) _) | (simp only [List.length_map, List.length_set, List.length_replicate, List.length_cons, List.length_nil, List.length_append] <;> omega) | fail) only [VV0, VV1, VV2, VV3, VV4, VV5, VV6, VV7, mkFnV, vargs, slotsL, opdsA, not_true_eq_false, not_false_eq_true, decide_true, decide_false, Option.map_some, Option.bind_some, List.cons_append, List.nil_append, List.map_cons, List.map_nil, List.append_nil, Option.toList_some, Option.toList_none, Nat.reduceEqDiff, Nat.reduceLT, Nat.reduceAdd, Nat.reduceBEq, Int.reduceAdd, Int.reduceSub, Int.reduceLT, Int.reduceLE, Int.reduceEq, Int.reduceNeg, ↓reduceIte, if_true, if_false, Bool.false_eq_true, Bool.not_true, Bool.not_false, List.length_cons, List.length_nil, List.length_singleton, reduceCtorEq, Int.toNat_natCast, Nat.zero_add, Nat.add_zero, Nat.mul_one, Int.add_sub_cancel, eq_self, List.drop_zero, List.drop_succ_cons, Option.some.injEq, Prod.mk.injEq, Bool.and_true, Bool.true_and, Bool.and_self, true_or, List.set_cons_zero, List.set_cons_succ, scL, scD, expand, List.replicate, c6, c1]) | (refine gC_drawW ?_) | (refine gI_dec (fun _ => ?_) (fun _ => ?_)) | (refine gG_dec (fun _ => ?_) (fun _ => ?_)) | (refine gPG_dec (fun _ => ?_) (fun _ => ?_)) | (refine gI_var (fun _ => ?_) (fun _ => ?_)) | (refine gG_var (fun _ => ?_) (fun _ => ?_)) | (refine gPG_var (fun _ => ?_) (fun _ => ?_)))
      exact weak_tupNil 3 1 rfl h0 rfl
  have c1a : ¬ l.length = 0 := fun h => c1 (.inl h)
  have c1b : ¬ 64 < l.length := fun h => c1 (.inr h)
  have hck := fun st => (rcheck_p w (n) s l (by omega)).of hC rfl st rfl
  by_cases c2 : chk l ≠ 0
  · have e : windF l p t = ([], 8) := by unfold windF; rw [if_neg c1, if_pos c2]
    rw [e]
    repeat' (first | (simp (disch := first | omega | assumption | (refine @id ((_ : Bool) = _) ?_; exact id (by with_unfolding_all rfl)) | (exact Or.inl rfl) | (exact Or.inl trivial) | (exact okL_map _ (fun _ => rfl) _) | (simp only [List.length_map, List.length_set, List.length_replicate, List.length_cons, List.length_nil, List.length_append] <;> omega) | fail) only [VV0, VV1, VV2, VV3, VV4, VV5, VV6, VV7, mkFnV, vargs, slotsL, opdsA, not_true_eq_false, not_false_eq_true, decide_true, decide_false, Option.map_some, Option.bind_some, List.cons_append, List.nil_append, List.map_cons, List.map_nil, List.append_nil, Option.toList_some, Option.toList_none, Nat.reduceEqDiff, Nat.reduceLT, Nat.reduceAdd, Nat.reduceBEq, Int.reduceAdd, Int.reduceSub, Int.reduceLT, Int.reduceLE, Int.reduceEq, Int.reduceNeg, ↓reduceIte, if_true, if_false, Bool.false_eq_true, Bool.not_true, Bool.not_false, List.length_cons, List.length_nil, List.length_singleton, reduceCtorEq, Int.toNat_natCast, Nat.zero_add, Nat.add_zero, Nat.mul_one, Int.add_sub_cancel, eq_self, List.drop_zero, List.drop_succ_cons, Option.some.injEq, Prod.mk.injEq, Bool.and_true, Bool.true_and, Bool.and_self, true_or, List.set_cons_zero, List.set_cons_succ, scL, scD, expand, List.replicate, c6]) | (refine gC_drawW ?_) | (refine gI_dec (fun _ => ?_) (fun _ => ?_)) | (refine gG_dec (fun _ => ?_) (fun _ => ?_)) | (refine gPG_dec (fun _ => ?_) (fun _ => ?_)) | (refine gI_var (fun _ => ?_) (fun _ => ?_)) | (refine gG_var (fun _ => ?_) (fun _ => ?_)) | (refine gPG_var (fun _ => ?_) (fun _ => ?_)))
    refine callV_flat (hck _) ?_
    repeat' (first | (simp (disch := first | omega | assumption | (refine @id ((_ : Bool) = _) ?_; exact id (by with_unfolding_all rfl)) | (exact Or.inl rfl) | (exact Or.inl trivial) | (exact okL_map _ (fun _ => rfl) _) | (simp only [List.length_map, List.length_set, List.length_replicate, List.length_cons, List.length_nil, List.length_append] <;> omega) | fail) only [VV0, VV1, VV2, VV3, VV4, VV5, VV6, VV7, mkFnV, vargs, slotsL, opdsA, not_true_eq_false, not_false_eq_true, decide_true, decide_false, Option.map_some, Option.bind_some, List.cons_append, List.nil_append, List.map_cons, List.map_nil, List.append_nil, Option.toList_some, Option.toList_none, Nat.reduceEqDiff, Nat.reduceLT, Nat.reduceAdd, Nat.reduceBEq, Int.reduceAdd, Int.reduceSub, Int.reduceLT, Int.reduceLE, Int.reduceEq, Int.reduceNeg, ↓reduceIte, if_true, if_false, Bool.false_eq_true, Bool.not_true, Bool.not_false, List.length_cons, List.length_nil, List.length_singleton, reduceCtorEq, Int.toNat_natCast, Nat.zero_add, Nat.add_zero, Nat.mul_one, Int.add_sub_cancel, eq_self, List.drop_zero, List.drop_succ_cons, Option.some.injEq, Prod.mk.injEq, Bool.and_true, Bool.true_and, Bool.and_self, true_or, List.set_cons_zero, List.set_cons_succ, scL, scD, expand, List.replicate]) | (refine gC_drawW ?_) | (refine gI_dec (fun _ => ?_) (fun _ => ?_)) | (refine gG_dec (fun _ => ?_) (fun _ => ?_)) | (refine gPG_dec (fun _ => ?_) (fun _ => ?_)) | (refine gI_var (fun _ => ?_) (fun _ => ?_)) | (refine gG_var (fun _ => ?_) (fun _ => ?_)) | (refine gPG_var (fun _ => ?_) (fun _ => ?_)))
    all_goals first | exact weak_tupNil 3 1 rfl h0 rfl | exact absurd trivial ‹¬True›
  have c2' : chk l = 0 := Classical.not_not.1 c2
  rw [c2'] at hck
  by_cases c3 : p < 0 ∨ 4000 < p
  · have e : windF l p t = ([], 2) := by unfold windF; rw [if_neg c1, if_neg c2, if_pos c3]
    rw [e]
    rcases c3 with c3 | c3
    all_goals
      repeat' (first | (simp (disch := first | omega | assumption | (refine @id ((_ : Bool) = _) ?_; exact id (by with_unfolding_all rfl)) | (exact Or.inl rfl) | (exact Or.inl trivial) | (exact okL_map _ (fun _ => rfl) _) | (simp only [List.length_map, List.length_set, List.length_replicate, List.length_cons, List.length_nil, List.length_append] <;> omega) | fail) only [VV0, VV1, VV2, VV3, VV4, VV5, VV6, VV7, mkFnV, vargs, slotsL, opdsA, not_true_eq_false, not_false_eq_true, decide_true, decide_false, Option.map_some, Option.bind_some, List.cons_append, List.nil_append, List.map_cons, List.map_nil, List.append_nil, Option.toList_some, Option.toList_none, Nat.reduceEqDiff, Nat.reduceLT, Nat.reduceAdd, Nat.reduceBEq, Int.reduceAdd, Int.reduceSub, Int.reduceLT, Int.reduceLE, Int.reduceEq, Int.reduceNeg, ↓reduceIte, if_true, if_false, Bool.false_eq_true, Bool.not_true, Bool.not_false, List.length_cons, List.length_nil, List.length_singleton, reduceCtorEq, Int.toNat_natCast, Nat.zero_add, Nat.add_zero, Nat.mul_one, Int.add_sub_cancel, eq_self, List.drop_zero, List.drop_succ_cons, Option.some.injEq, Prod.mk.injEq, Bool.and_true, Bool.true_and, Bool.and_self, true_or, List.set_cons_zero, List.set_cons_succ, scL, scD, expand, List.replicate, c6]) | (refine gC_drawW ?_) | (refine gI_dec (fun _ => ?_) (fun _ => ?_)) | (refine gG_dec (fun _ => ?_) (fun _ => ?_)) | (refine gPG_dec (fun _ => ?_) (fun _ => ?_)) | (refine gI_var (fun _ => ?_) (fun _ => ?_)) | (refine gG_var (fun _ => ?_) (fun _ => ?_)) | (refine gPG_var (fun _ => ?_) (fun _ => ?_)))
      refine callV_flat (hck _) ?_
      repeat' (first | (simp (disch := first | omega | assumption | (refine @id ((_ : Bool) = _) ?_; exact id (by with_unfolding_all rfl)) | (exact Or.inl rfl) | (exact Or.inl trivial) | (exact okL_map _ (fun _ => rfl) _) | (simp only [List.length_map, List.length_set, List.length_replicate, List.length_cons, List.length_nil, List.length_append] <;> omega) | fail) only [VV0, VV1, VV2, VV3, VV4, VV5, VV6, VV7, mkFnV, vargs, slotsL, opdsA, not_true_eq_false, not_false_eq_true, decide_true, decide_false, Option.map_some, Option.bind_some, List.cons_append, List.nil_append, List.map_cons, List.map_nil, List.append_nil, Option.toList_some, Option.toList_none, Nat.reduceEqDiff, Nat.reduceLT, Nat.reduceAdd, Nat.reduceBEq, Int.reduceAdd, Int.reduceSub, Int.reduceLT, Int.reduceLE, Int.reduceEq, Int.reduceNeg, ↓reduceIte, if_true, if_false, Bool.false_eq_true, Bool.not_true, Bool.not_false, List.length_cons, List.length_nil, List.length_singleton, reduceCtorEq, Int.toNat_natCast, Nat.zero_add, Nat.add_zero, Nat.mul_one, Int.add_sub_cancel, eq_self, List.drop_zero, List.drop_succ_cons, Option.some.injEq, Prod.mk.injEq, Bool.and_true, Bool.true_and, Bool.and_self, true_or, List.set_cons_zero, List.set_cons_succ, scL, scD, expand, List.replicate]) | (refine gC_drawW ?_) | (refine gI_dec (fun _ => ?_) (fun _ => ?_)) | (refine gG_dec (fun _ => ?_) (fun _ => ?_)) | (refine gPG_dec (fun _ => ?_) (fun _ => ?_)) | (refine gI_var (fun _ => ?_) (fun _ => ?_)) | (refine gG_var (fun _ => ?_) (fun _ => ?_)) | (refine gPG_var (fun _ => ?_) (fun _ => ?_)))
      all_goals first | exact weak_tupNil 3 1 rfl h0 rfl | exact absurd trivial ‹¬True›
  obtain ⟨q, rfl⟩ : ∃ q : Nat, p = q := ⟨p.toNat, by omega⟩
  have hpl : (q : Int) * (l.length : Int) = ((q * l.length : Nat) : Int) := by simp
  have hq : q ≤ 4000 := by omega
  have hqb : q * l.length ≤ 4000 * 64 := Nat.mul_le_mul hq (by omega)
  by_cases c4 : 4000 < (q : Int) * l.length
  · have e : windF l q t = ([], 4) := by unfold windF; rw [if_neg c1, if_neg c2, if_neg c3, if_pos c4]
    rw [e]
    rw [hpl] at c4
    repeat' (first | (simp (disch := first | omega | assumption | (refine @id ((_ : Bool) = _) ?_; exact id (by with_unfolding_all rfl)) | (exact Or.inl rfl) | (exact Or.inl trivial) | (exact okL_map _ (fun _ => rfl) _) | (simp only [List.length_map, List.length_set, List.length_replicate, List.length_cons, List.length_nil, List.length_append] <;> omega) | fail) only [VV0, VV1, VV2, VV3, VV4, VV5, VV6, VV7, mkFnV, vargs, slotsL, opdsA, not_true_eq_false, not_false_eq_true, decide_true, decide_false, Option.map_some, Option.bind_some, List.cons_append, List.nil_append, List.map_cons, List.map_nil, List.append_nil, Option.toList_some, Option.toList_none, Nat.reduceEqDiff, Nat.reduceLT, Nat.reduceAdd, Nat.reduceBEq, Int.reduceAdd, Int.reduceSub, Int.reduceLT, Int.reduceLE, Int.reduceEq, Int.reduceNeg, ↓reduceIte, if_true, if_false, Bool.false_eq_true, Bool.not_true, Bool.not_false, List.length_cons, List.length_nil, List.length_singleton, reduceCtorEq, Int.toNat_natCast, Nat.zero_add, Nat.add_zero, Nat.mul_one, Int.add_sub_cancel, eq_self, List.drop_zero, List.drop_succ_cons, Option.some.injEq, Prod.mk.injEq, Bool.and_true, Bool.true_and, Bool.and_self, true_or, List.set_cons_zero, List.set_cons_succ, scL, scD, expand, List.replicate, c6]) | (refine gC_drawW ?_) | (refine gI_dec (fun _ => ?_) (fun _ => ?_)) | (refine gG_dec (fun _ => ?_) (fun _ => ?_)) | (refine gPG_dec (fun _ => ?_) (fun _ => ?_)) | (refine gI_var (fun _ => ?_) (fun _ => ?_)) | (refine gG_var (fun _ => ?_) (fun _ => ?_)) | (refine gPG_var (fun _ => ?_) (fun _ => ?_)))
    refine callV_flat (hck _) ?_
    repeat' (first | (simp (disch := first | omega | assumption | (refine @id ((_ : Bool) = _) ?_; exact id (by with_unfolding_all rfl)) | (exact Or.inl rfl) | (exact Or.inl trivial) | (exact okL_map _ (fun _ => rfl) _) | (simp only [List.length_map, List.length_set, List.length_replicate, List.length_cons, List.length_nil, List.length_append] <;> omega) | fail) only [VV0, VV1, VV2, VV3, VV4, VV5, VV6, VV7, mkFnV, vargs, slotsL, opdsA, not_true_eq_false, not_false_eq_true, decide_true, decide_false, Option.map_some, Option.bind_some, List.cons_append, List.nil_append, List.map_cons, List.map_nil, List.append_nil, Option.toList_some, Option.toList_none, Nat.reduceEqDiff, Nat.reduceLT, Nat.reduceAdd, Nat.reduceBEq, Int.reduceAdd, Int.reduceSub, Int.reduceLT, Int.reduceLE, Int.reduceEq, Int.reduceNeg, ↓reduceIte, if_true, if_false, Bool.false_eq_true, Bool.not_true, Bool.not_false, List.length_cons, List.length_nil, List.length_singleton, reduceCtorEq, Int.toNat_natCast, Nat.zero_add, Nat.add_zero, Nat.mul_one, Int.add_sub_cancel, eq_self, List.drop_zero, List.drop_succ_cons, Option.some.injEq, Prod.mk.injEq, Bool.and_true, Bool.true_and, Bool.and_self, true_or, List.set_cons_zero, List.set_cons_succ, scL, scD, expand, List.replicate, hpl]) | (refine gC_drawW ?_) | (refine gI_dec (fun _ => ?_) (fun _ => ?_)) | (refine gG_dec (fun _ => ?_) (fun _ => ?_)) | (refine gPG_dec (fun _ => ?_) (fun _ => ?_)) | (refine gI_var (fun _ => ?_) (fun _ => ?_)) | (refine gG_var (fun _ => ?_) (fun _ => ?_)) | (refine gPG_var (fun _ => ?_) (fun _ => ?_)))
    all_goals first | exact weak_tupNil 3 1 rfl h0 rfl | exact absurd trivial ‹¬True›
  have e : windF l q t = (windR l t (q * l.length), 0) := by unfold windF; rw [if_neg c1, if_neg c2, if_neg c3, if_neg c4]; rfl
  rw [e]
  rw [hpl] at c4
  repeat' (first | (simp (disch := first | omega | assumption | (refine @id ((_ : Bool) = _) ?_; exact id (by with_unfolding_all rfl)) | (exact Or.inl rfl) | (exact Or.inl trivial) | (exact okL_map _ (fun _ => rfl) _) | (simp only [List.length_map, List.length_set, List.length_replicate, List.length_cons, List.length_nil, List.length_append] <;> omega) | fail) only [VV0, VV1, VV2, VV3, VV4, VV5, VV6, VV7, mkFnV, vargs, slotsL, opdsA, not_true_eq_false, not_false_eq_true, decide_true, decide_false, Option.map_some, Option.bind_some, List.cons_append, List.nil_append, List.map_cons, List.map_nil, List.append_nil, Option.toList_some, Option.toList_none, Nat.reduceEqDiff, Nat.reduceLT, Nat.reduceAdd, Nat.reduceBEq, Int.reduceAdd, Int.reduceSub, Int.reduceLT, Int.reduceLE, Int.reduceEq, Int.reduceNeg, ↓reduceIte, if_true, if_false, Bool.false_eq_true, Bool.not_true, Bool.not_false, List.length_cons, List.length_nil, List.length_singleton, reduceCtorEq, Int.toNat_natCast, Nat.zero_add, Nat.add_zero, Nat.mul_one, Int.add_sub_cancel, eq_self, List.drop_zero, List.drop_succ_cons, Option.some.injEq, Prod.mk.injEq, Bool.and_true, Bool.true_and, Bool.and_self, true_or, List.set_cons_zero, List.set_cons_succ, scL, scD, expand, List.replicate, c6]) | (refine gC_drawW ?_) | (refine gI_dec (fun _ => ?_) (fun _ => ?_)) | (refine gG_dec (fun _ => ?_) (fun _ => ?_)) | (refine gPG_dec (fun _ => ?_) (fun _ => ?_)) | (refine gI_var (fun _ => ?_) (fun _ => ?_)) | (refine gG_var (fun _ => ?_) (fun _ => ?_)) | (refine gPG_var (fun _ => ?_) (fun _ => ?_)))
  refine callV_flat (hck _) ?_
  repeat' (first | (simp (disch := first | omega | assumption | (refine @id ((_ : Bool) = _) ?_; exact id (by with_unfolding_all rfl)) | (exact Or.inl rfl) | (exact Or.inl trivial) | (exact okL_map _ (fun _ => rfl) _) | (simp only [List.length_map, List.length_set, List.length_replicate, List.length_cons, List.length_nil, List.length_append] <;> omega) | fail) only [VV0, VV1, VV2, VV3, VV4, VV5, VV6, VV7, mkFnV, vargs, slotsL, opdsA, not_true_eq_false, not_false_eq_true, decide_true, decide_false, Option.map_some, Option.bind_some, List.cons_append, List.nil_append, List.map_cons, List.map_nil, List.append_nil, Option.toList_some, Option.toList_none, Nat.reduceEqDiff, Nat.reduceLT, Nat.reduceAdd, Nat.reduceBEq, Int.reduceAdd, Int.reduceSub, Int.reduceLT, Int.reduceLE, Int.reduceEq, Int.reduceNeg, ↓reduceIte, if_true, if_false, Bool.false_eq_true, Bool.not_true, Bool.not_false, List.length_cons, List.length_nil, List.length_singleton, reduceCtorEq, Int.toNat_natCast, Nat.zero_add, Nat.add_zero, Nat.mul_one, Int.add_sub_cancel, eq_self, List.drop_zero, List.drop_succ_cons, Option.some.injEq, Prod.mk.injEq, Bool.and_true, Bool.true_and, Bool.and_self, true_or, List.set_cons_zero, List.set_cons_succ, scL, scD, expand, List.replicate, hpl]) | (refine gC_drawW ?_) | (refine gI_dec (fun _ => ?_) (fun _ => ?_)) | (refine gG_dec (fun _ => ?_) (fun _ => ?_)) | (refine gPG_dec (fun _ => ?_) (fun _ => ?_)) | (refine gI_var (fun _ => ?_) (fun _ => ?_)) | (refine gG_var (fun _ => ?_) (fun _ => ?_)) | (refine gPG_var (fun _ => ?_) (fun _ => ?_)))
  refine g_while (fun m fr st => ∃ k : Nat, m = q * l.length - k ∧ k ≤ q * l.length ∧ fr = [(0, .sl s l.length (l.map iD)), (1, .sc (.int .i64 q)), (2, .sc (.bool t)), (8, .gr 2 0 k), (9, .sc (.int .i64 k))] ∧ st = ⟨[(0, .gro 3 1 false ((windR l t k).map iD))], 1, 0⟩) (q * l.length) ?_ ⟨_, _, weak_nilSlot 8 3 1 rfl, 0, ?_⟩ ?_
  · rw [hC, callP_rounds]; unfold many; omega
  · exact ⟨by omega, by omega, rfl, rfl⟩
  · rintro m fr st ⟨k, rfl, hk, rfl, rfl⟩
    by_cases hlt : k < q * l.length
    · have hcl := cone_lt (i := k) t (show 0 < l.length by omega)
      have hst := windR_step l t k
      have hlk : ((windR l t k).map iD).length = k * 1 := by simp [windR_len]
      repeat' (first | (simp (disch := first | omega | assumption | (refine @id ((_ : Bool) = _) ?_; exact id (by with_unfolding_all rfl)) | (exact Or.inl rfl) | (exact Or.inl trivial) | (exact okL_map _ (fun _ => rfl) _) | (simp only [List.length_map, List.length_set, List.length_replicate, List.length_cons, List.length_nil, List.length_append] <;> omega) | fail) only [VV0, VV1, VV2, VV3, VV4, VV5, VV6, VV7, mkFnV, vargs, slotsL, opdsA, not_true_eq_false, not_false_eq_true, decide_true, decide_false, Option.map_some, Option.bind_some, List.cons_append, List.nil_append, List.map_cons, List.map_nil, List.append_nil, Option.toList_some, Option.toList_none, Nat.reduceEqDiff, Nat.reduceLT, Nat.reduceAdd, Nat.reduceBEq, Int.reduceAdd, Int.reduceSub, Int.reduceLT, Int.reduceLE, Int.reduceEq, Int.reduceNeg, ↓reduceIte, if_true, if_false, Bool.false_eq_true, Bool.not_true, Bool.not_false, List.length_cons, List.length_nil, List.length_singleton, reduceCtorEq, Int.toNat_natCast, Nat.zero_add, Nat.add_zero, Nat.mul_one, Int.add_sub_cancel, eq_self, List.drop_zero, List.drop_succ_cons, Option.some.injEq, Prod.mk.injEq, Bool.and_true, Bool.true_and, Bool.and_self, true_or, List.set_cons_zero, List.set_cons_succ, scL, scD, expand, List.replicate, c6l0, iD_dv, hpl]) | (refine gC_drawW ?_) | (refine gI_dec (fun _ => ?_) (fun _ => ?_)) | (refine gG_dec (fun _ => ?_) (fun _ => ?_)) | (refine gPG_dec (fun _ => ?_) (fun _ => ?_)) | (refine gI_var (fun _ => ?_) (fun _ => ?_)) | (refine gG_var (fun _ => ?_) (fun _ => ?_)) | (refine gPG_var (fun _ => ?_) (fun _ => ?_)))
      refine callV_flat ((fun st => (cone_p w n k l.length t (by omega) (by omega) (by omega)).of hC rfl st rfl) _) ?_
      repeat' (first | (simp (disch := first | omega | assumption | (refine @id ((_ : Bool) = _) ?_; exact id (by with_unfolding_all rfl)) | (exact Or.inl rfl) | (exact Or.inl trivial) | (exact okL_map _ (fun _ => rfl) _) | (simp only [List.length_map, List.length_set, List.length_replicate, List.length_cons, List.length_nil, List.length_append] <;> omega) | fail) only [VV0, VV1, VV2, VV3, VV4, VV5, VV6, VV7, mkFnV, vargs, slotsL, opdsA, not_true_eq_false, not_false_eq_true, decide_true, decide_false, Option.map_some, Option.bind_some, List.cons_append, List.nil_append, List.map_cons, List.map_nil, List.append_nil, Option.toList_some, Option.toList_none, Nat.reduceEqDiff, Nat.reduceLT, Nat.reduceAdd, Nat.reduceBEq, Int.reduceAdd, Int.reduceSub, Int.reduceLT, Int.reduceLE, Int.reduceEq, Int.reduceNeg, ↓reduceIte, if_true, if_false, Bool.false_eq_true, Bool.not_true, Bool.not_false, List.length_cons, List.length_nil, List.length_singleton, reduceCtorEq, Int.toNat_natCast, Nat.zero_add, Nat.add_zero, Nat.mul_one, Int.add_sub_cancel, eq_self, List.drop_zero, List.drop_succ_cons, Option.some.injEq, Prod.mk.injEq, Bool.and_true, Bool.true_and, Bool.and_self, true_or, List.set_cons_zero, List.set_cons_succ, scL, scD, expand, List.replicate, iD_dv]) | (refine gC_drawW ?_) | (refine gI_dec (fun _ => ?_) (fun _ => ?_)) | (refine gG_dec (fun _ => ?_) (fun _ => ?_)) | (refine gPG_dec (fun _ => ?_) (fun _ => ?_)) | (refine gI_var (fun _ => ?_) (fun _ => ?_)) | (refine gG_var (fun _ => ?_) (fun _ => ?_)) | (refine gPG_var (fun _ => ?_) (fun _ => ?_)))
      refine ⟨_, _, _, by omega, weak_to [(2, 0)] 1 h0 rfl rfl rfl rfl, k + 1, rfl, hlt, ?_, ?_⟩
      · simp [renF, vren, vrenL, aget_cons]
      · simp [renH, aget_cons, renO, hst, iD]
    · have : k = q * l.length := by omega
      subst this
      repeat' (first | (simp (disch := first | omega | assumption | (refine @id ((_ : Bool) = _) ?_; exact id (by with_unfolding_all rfl)) | (exact Or.inl rfl) | (exact Or.inl trivial) | (exact okL_map _ (fun _ => rfl) _) | (simp only [List.length_map, List.length_set, List.length_replicate, List.length_cons, List.length_nil, List.length_append] <;> omega) | fail) only [VV0, VV1, VV2, VV3, VV4, VV5, VV6, VV7, mkFnV, vargs, slotsL, opdsA, not_true_eq_false, not_false_eq_true, decide_true, decide_false, Option.map_some, Option.bind_some, List.cons_append, List.nil_append, List.map_cons, List.map_nil, List.append_nil, Option.toList_some, Option.toList_none, Nat.reduceEqDiff, Nat.reduceLT, Nat.reduceAdd, Nat.reduceBEq, Int.reduceAdd, Int.reduceSub, Int.reduceLT, Int.reduceLE, Int.reduceEq, Int.reduceNeg, ↓reduceIte, if_true, if_false, Bool.false_eq_true, Bool.not_true, Bool.not_false, List.length_cons, List.length_nil, List.length_singleton, reduceCtorEq, Int.toNat_natCast, Nat.zero_add, Nat.add_zero, Nat.mul_one, Int.add_sub_cancel, eq_self, List.drop_zero, List.drop_succ_cons, Option.some.injEq, Prod.mk.injEq, Bool.and_true, Bool.true_and, Bool.and_self, true_or, List.set_cons_zero, List.set_cons_succ, scL, scD, expand, List.replicate, c6l0, iD_dv, hpl]) | (refine gC_drawW ?_) | (refine gI_dec (fun _ => ?_) (fun _ => ?_)) | (refine gG_dec (fun _ => ?_) (fun _ => ?_)) | (refine gPG_dec (fun _ => ?_) (fun _ => ?_)) | (refine gI_var (fun _ => ?_) (fun _ => ?_)) | (refine gG_var (fun _ => ?_) (fun _ => ?_)) | (refine gPG_var (fun _ => ?_) (fun _ => ?_)))
      simp only [resV, resS, windR_len]
      exact .refl _ _
end
end Go.Proofs.Ytgglaaldlegckaa
namespace Go.Proofs.Ytgglaaldlegckaa
open Go Go.Itp
set_option maxRecDepth 100000
set_option maxHeartbeats 1000000
set_option linter.unusedSimpArgs false
theorem eq_of_all {a l : List Int} (h : a.length = l.length) (ha : ∀ j, j < l.length → a[j]! = l[j]!) : a = l := by
  refine List.ext_getElem h fun i h1 h2 => ?_
  have := ha i h2
  rwa [getElem!_pos a i h1, getElem!_pos l i h2] at this
section
variable (w : World) (n : Nat)
theorem pwind_p (s : Nat) (l : List Int) (p : Int) (t : Bool) (hl : l.length ≤ 5000) : VSpec (EN w (n + 6)) 5 [.sl s l.length (l.map iD), .sc (.int .i64 p), .sc (.bool t)] (resV (windF l p t)) (resS (windF l p t)) := by
  refine vspec_g rfl rfl (fun _ _ => rfl) (Nat.le_of_ble_eq_true rfl) (oldVals w) (retOK_tgr (map_nil_iff rfl)) rfl fun C hC h0 => ?_
  by_cases c1 : l.length = 0 ∨ 64 < l.length
  · have e : windF l p t = ([], 2) := if_pos c1
    rw [e]
    rcases c1 with c1 | c1
    all_goals
      repeat' (first | (simp (disch := first | omega | assumption | (refine @id ((_ : Bool) = _) ?_; exact id (by with_unfolding_all rfl)) | (exact Or.inl rfl) | (exact Or.inl trivial) | (exact okL_map _ (fun _ => rfl) _) | (simp only [List.length_map, List.length_set, List.length_replicate, List.length_cons, List.length_nil, List.length_append] <;> omega) | fail) only [VV0, VV1, VV2, VV3, VV4, VV5, VV6, VV7, mkFnV, vargs, slotsL, opdsA, not_true_eq_false, not_false_eq_true, decide_true, decide_false, Option.map_some, Option.bind_some, List.cons_append, List.nil_append, List.map_cons, List.map_nil, List.append_nil, Option.toList_some, Option.toList_none, Nat.reduceEqDiff, Nat.reduceLT, Nat.reduceAdd, Nat.reduceBEq, Int.reduceAdd, Int.reduceSub, Int.reduceLT, Int.reduceLE, Int.reduceEq, Int.reduceNeg, ↓reduceIte, if_true, if_false, Bool.false_eq_true, Bool.not_true, Bool.not_false, List.length_cons, List.length_nil, List.length_singleton, reduceCtorEq, Int.toNat_natCast, Nat.zero_add, Nat.add_zero, Nat.mul_one, Int.add_sub_cancel, eq_self, List.drop_zero, List.drop_succ_cons, Option.some.injEq, Prod.mk.injEq, Bool.and_true, Bool.true_and, Bool.and_self, true_or, List.set_cons_zero, List.set_cons_succ, scL, scD, expand, List.replicate, c5, c1]) | (refine gC_drawW ?_) | (refine gI_dec (fun _ => ?_) (fun _ => ?_)) | (refine gG_dec (fun _ => ?_) (fun _ => ?_)) | (refine gPG_dec (fun _ => ?_) (fun _ => ?_)) | (refine gI_var (fun _ => ?_) (fun _ => ?_)) | (refine gG_var (fun _ => ?_) (fun _ => ?_)) | (refine gPG_var (fun _ => ?_) (fun _ => ?_)))
      all_goals first | exact weak_tupNil 3 1 rfl h0 rfl | exact absurd trivial ‹¬True› | (exfalso; omega)
  have c1a : ¬ l.length = 0 := fun h => c1 (.inl h)
  have c1b : ¬ 64 < l.length := fun h => c1 (.inr h)
  have hck := fun st => (check_p w n s l (by omega)).of hC rfl st rfl
  by_cases c2 : chk l ≠ 0
  · have e : windF l p t = ([], 8) := by unfold windF; rw [if_neg c1, if_pos c2]
    rw [e]
    repeat' (first | (simp (disch := first | omega | assumption | (refine @id ((_ : Bool) = _) ?_; exact id (by with_unfolding_all rfl)) | (exact Or.inl rfl) | (exact Or.inl trivial) | (exact okL_map _ (fun _ => rfl) _) | (simp only [List.length_map, List.length_set, List.length_replicate, List.length_cons, List.length_nil, List.length_append] <;> omega) | fail) only [VV0, VV1, VV2, VV3, VV4, VV5, VV6, VV7, mkFnV, vargs, slotsL, opdsA, not_true_eq_false, not_false_eq_true, decide_true, decide_false, Option.map_some, Option.bind_some, List.cons_append, List.nil_append, List.map_cons, List.map_nil, List.append_nil, Option.toList_some, Option.toList_none, Nat.reduceEqDiff, Nat.reduceLT, Nat.reduceAdd, Nat.reduceBEq, Int.reduceAdd, Int.reduceSub, Int.reduceLT, Int.reduceLE, Int.reduceEq, Int.reduceNeg, ↓reduceIte, if_true, if_false, Bool.false_eq_true, Bool.not_true, Bool.not_false, List.length_cons, List.length_nil, List.length_singleton, reduceCtorEq, Int.toNat_natCast, Nat.zero_add, Nat.add_zero, Nat.mul_one, Int.add_sub_cancel, eq_self, List.drop_zero, List.drop_succ_cons, Option.some.injEq, Prod.mk.injEq, Bool.and_true, Bool.true_and, Bool.and_self, true_or, List.set_cons_zero, List.set_cons_succ, scL, scD, expand, List.replicate, c5]) | (refine gC_drawW ?_) | (refine gI_dec (fun _ => ?_) (fun _ => ?_)) | (refine gG_dec (fun _ => ?_) (fun _ => ?_)) | (refine gPG_dec (fun _ => ?_) (fun _ => ?_)) | (refine gI_var (fun _ => ?_) (fun _ => ?_)) | (refine gG_var (fun _ => ?_) (fun _ => ?_)) | (refine gPG_var (fun _ => ?_) (fun _ => ?_)))
    refine callV_flat (hck _) ?_
    repeat' (first | (simp (disch := first | omega | assumption | (refine @id ((_ : Bool) = _) ?_; exact id (by with_unfolding_all rfl)) | (exact Or.inl rfl) | (exact Or.inl trivial) | (exact okL_map _ (fun _ => rfl) _) | (simp only [List.length_map, List.length_set, List.length_replicate, List.length_cons, List.length_nil, List.length_append] <;> omega) | fail) only [VV0, VV1, VV2, VV3, VV4, VV5, VV6, VV7, mkFnV, vargs, slotsL, opdsA, not_true_eq_false, not_false_eq_true, decide_true, decide_false, Option.map_some, Option.bind_some, List.cons_append, List.nil_append, List.map_cons, List.map_nil, List.append_nil, Option.toList_some, Option.toList_none, Nat.reduceEqDiff, Nat.reduceLT, Nat.reduceAdd, Nat.reduceBEq, Int.reduceAdd, Int.reduceSub, Int.reduceLT, Int.reduceLE, Int.reduceEq, Int.reduceNeg, ↓reduceIte, if_true, if_false, Bool.false_eq_true, Bool.not_true, Bool.not_false, List.length_cons, List.length_nil, List.length_singleton, reduceCtorEq, Int.toNat_natCast, Nat.zero_add, Nat.add_zero, Nat.mul_one, Int.add_sub_cancel, eq_self, List.drop_zero, List.drop_succ_cons, Option.some.injEq, Prod.mk.injEq, Bool.and_true, Bool.true_and, Bool.and_self, true_or, List.set_cons_zero, List.set_cons_succ, scL, scD, expand, List.replicate]) | (refine gC_drawW ?_) | (refine gI_dec (fun _ => ?_) (fun _ => ?_)) | (refine gG_dec (fun _ => ?_) (fun _ => ?_)) | (refine gPG_dec (fun _ => ?_) (fun _ => ?_)) | (refine gI_var (fun _ => ?_) (fun _ => ?_)) | (refine gG_var (fun _ => ?_) (fun _ => ?_)) | (refine gPG_var (fun _ => ?_) (fun _ => ?_)))
    all_goals first | exact weak_tupNil 3 1 rfl h0 rfl | exact absurd trivial ‹¬True› | contradiction
  have c2' : chk l = 0 := Classical.not_not.1 c2
  rw [c2'] at hck
  by_cases c3 : p < 0 ∨ 4000 < p
  · have e : windF l p t = ([], 2) := by unfold windF; rw [if_neg c1, if_neg c2, if_pos c3]
    rw [e]
    rcases c3 with c3 | c3
    all_goals
      repeat' (first | (simp (disch := first | omega | assumption | (refine @id ((_ : Bool) = _) ?_; exact id (by with_unfolding_all rfl)) | (exact Or.inl rfl) | (exact Or.inl trivial) | (exact okL_map _ (fun _ => rfl) _) | (simp only [List.length_map, List.length_set, List.length_replicate, List.length_cons, List.length_nil, List.length_append] <;> omega) | fail) only [VV0, VV1, VV2, VV3, VV4, VV5, VV6, VV7, mkFnV, vargs, slotsL, opdsA, not_true_eq_false, not_false_eq_true, decide_true, decide_false, Option.map_some, Option.bind_some, List.cons_append, List.nil_append, List.map_cons, List.map_nil, List.append_nil, Option.toList_some, Option.toList_none, Nat.reduceEqDiff, Nat.reduceLT, Nat.reduceAdd, Nat.reduceBEq, Int.reduceAdd, Int.reduceSub, Int.reduceLT, Int.reduceLE, Int.reduceEq, Int.reduceNeg, ↓reduceIte, if_true, if_false, Bool.false_eq_true, Bool.not_true, Bool.not_false, List.length_cons, List.length_nil, List.length_singleton, reduceCtorEq, Int.toNat_natCast, Nat.zero_add, Nat.add_zero, Nat.mul_one, Int.add_sub_cancel, eq_self, List.drop_zero, List.drop_succ_cons, Option.some.injEq, Prod.mk.injEq, Bool.and_true, Bool.true_and, Bool.and_self, true_or, List.set_cons_zero, List.set_cons_succ, scL, scD, expand, List.replicate, c5]) | (refine gC_drawW ?_) | (refine gI_dec (fun _ => ?_) (fun _ => ?_)) | (refine gG_dec (fun _ => ?_) (fun _ => ?_)) | (refine gPG_dec (fun _ => ?_) (fun _ => ?_)) | (refine gI_var (fun _ => ?_) (fun _ => ?_)) | (refine gG_var (fun _ => ?_) (fun _ => ?_)) | (refine gPG_var (fun _ => ?_) (fun _ => ?_)))
      refine callV_flat (hck _) ?_
      repeat' (first | (simp (disch := first | omega | assumption | (refine @id ((_ : Bool) = _) ?_; exact id (by with_unfolding_all rfl)) | (exact Or.inl rfl) | (exact Or.inl trivial) | (exact okL_map _ (fun _ => rfl) _) | (simp only [List.length_map, List.length_set, List.length_replicate, List.length_cons, List.length_nil, List.length_append] <;> omega) | fail) only [VV0, VV1, VV2, VV3, VV4, VV5, VV6, VV7, mkFnV, vargs, slotsL, opdsA, not_true_eq_false, not_false_eq_true, decide_true, decide_false, Option.map_some, Option.bind_some, List.cons_append, List.nil_append, List.map_cons, List.map_nil, List.append_nil, Option.toList_some, Option.toList_none, Nat.reduceEqDiff, Nat.reduceLT, Nat.reduceAdd, Nat.reduceBEq, Int.reduceAdd, Int.reduceSub, Int.reduceLT, Int.reduceLE, Int.reduceEq, Int.reduceNeg, ↓reduceIte, if_true, if_false, Bool.false_eq_true, Bool.not_true, Bool.not_false, List.length_cons, List.length_nil, List.length_singleton, reduceCtorEq, Int.toNat_natCast, Nat.zero_add, Nat.add_zero, Nat.mul_one, Int.add_sub_cancel, eq_self, List.drop_zero, List.drop_succ_cons, Option.some.injEq, Prod.mk.injEq, Bool.and_true, Bool.true_and, Bool.and_self, true_or, List.set_cons_zero, List.set_cons_succ, scL, scD, expand, List.replicate]) | (refine gC_drawW ?_) | (refine gI_dec (fun _ => ?_) (fun _ => ?_)) | (refine gG_dec (fun _ => ?_) (fun _ => ?_)) | (refine gPG_dec (fun _ => ?_) (fun _ => ?_)) | (refine gI_var (fun _ => ?_) (fun _ => ?_)) | (refine gG_var (fun _ => ?_) (fun _ => ?_)) | (refine gPG_var (fun _ => ?_) (fun _ => ?_)))
      all_goals first | exact weak_tupNil 3 1 rfl h0 rfl | exact absurd trivial ‹¬True›
  obtain ⟨q, rfl⟩ : ∃ q : Nat, p = q := ⟨p.toNat, by omega⟩
  have hpl : (q : Int) * (l.length : Int) = ((q * l.length : Nat) : Int) := by simp
  have hq : q ≤ 4000 := by omega
  have hqb : q * l.length ≤ 4000 * 64 := Nat.mul_le_mul hq (by omega)
  by_cases c4 : 4000 < (q : Int) * l.length
  · have e : windF l q t = ([], 4) := by unfold windF; rw [if_neg c1, if_neg c2, if_neg c3, if_pos c4]
    rw [e]
    rw [hpl] at c4
    repeat' (first | (simp (disch := first | omega | assumption | (refine @id ((_ : Bool) = _) ?_; exact id (by with_unfolding_all rfl)) | (exact Or.inl rfl) | (exact Or.inl trivial) | (exact okL_map _ (fun _ => rfl) _) | (simp only [List.length_map, List.length_set, List.length_replicate, List.length_cons, List.length_nil, List.length_append] <;> omega) | fail) only [VV0, VV1, VV2, VV3, VV4, VV5, VV6, VV7, mkFnV, vargs, slotsL, opdsA, not_true_eq_false, not_false_eq_true, decide_true, decide_false, Option.map_some, Option.bind_some, List.cons_append, List.nil_append, List.map_cons, List.map_nil, List.append_nil, Option.toList_some, Option.toList_none, Nat.reduceEqDiff, Nat.reduceLT, Nat.reduceAdd, Nat.reduceBEq, Int.reduceAdd, Int.reduceSub, Int.reduceLT, Int.reduceLE, Int.reduceEq, Int.reduceNeg, ↓reduceIte, if_true, if_false, Bool.false_eq_true, Bool.not_true, Bool.not_false, List.length_cons, List.length_nil, List.length_singleton, reduceCtorEq, Int.toNat_natCast, Nat.zero_add, Nat.add_zero, Nat.mul_one, Int.add_sub_cancel, eq_self, List.drop_zero, List.drop_succ_cons, Option.some.injEq, Prod.mk.injEq, Bool.and_true, Bool.true_and, Bool.and_self, true_or, List.set_cons_zero, List.set_cons_succ, scL, scD, expand, List.replicate, c5]) | (refine gC_drawW ?_) | (refine gI_dec (fun _ => ?_) (fun _ => ?_)) | (refine gG_dec (fun _ => ?_) (fun _ => ?_)) | (refine gPG_dec (fun _ => ?_) (fun _ => ?_)) | (refine gI_var (fun _ => ?_) (fun _ => ?_)) | (refine gG_var (fun _ => ?_) (fun _ => ?_)) | (refine gPG_var (fun _ => ?_) (fun _ => ?_)))
    refine callV_flat (hck _) ?_
    repeat' (first | (simp (disch := first | omega | assumption | (refine @id ((_ : Bool) = _) ?_; exact id (by with_unfolding_all rfl)) | (exact Or.inl rfl) | (exact Or.inl trivial) | (exact okL_map _ (fun _ => rfl) _) | (simp only [List.length_map, List.length_set, List.length_replicate, List.length_cons, List.length_nil, List.length_append] <;> omega) | fail) only [VV0, VV1, VV2, VV3, VV4, VV5, VV6, VV7, mkFnV, vargs, slotsL, opdsA, not_true_eq_false, not_false_eq_true, decide_true, decide_false, Option.map_some, Option.bind_some, List.cons_append, List.nil_append, List.map_cons, List.map_nil, List.append_nil, Option.toList_some, Option.toList_none, Nat.reduceEqDiff, Nat.reduceLT, Nat.reduceAdd, Nat.reduceBEq, Int.reduceAdd, Int.reduceSub, Int.reduceLT, Int.reduceLE, Int.reduceEq, Int.reduceNeg, ↓reduceIte, if_true, if_false, Bool.false_eq_true, Bool.not_true, Bool.not_false, List.length_cons, List.length_nil, List.length_singleton, reduceCtorEq, Int.toNat_natCast, Nat.zero_add, Nat.add_zero, Nat.mul_one, Int.add_sub_cancel, eq_self, List.drop_zero, List.drop_succ_cons, Option.some.injEq, Prod.mk.injEq, Bool.and_true, Bool.true_and, Bool.and_self, true_or, List.set_cons_zero, List.set_cons_succ, scL, scD, expand, List.replicate, hpl]) | (refine gC_drawW ?_) | (refine gI_dec (fun _ => ?_) (fun _ => ?_)) | (refine gG_dec (fun _ => ?_) (fun _ => ?_)) | (refine gPG_dec (fun _ => ?_) (fun _ => ?_)) | (refine gI_var (fun _ => ?_) (fun _ => ?_)) | (refine gG_var (fun _ => ?_) (fun _ => ?_)) | (refine gPG_var (fun _ => ?_) (fun _ => ?_)))
    all_goals first | exact weak_tupNil 3 1 rfl h0 rfl | exact absurd trivial ‹¬True›
  have e : windF l q t = (windP l t q, 0) := by unfold windF; rw [if_neg c1, if_neg c2, if_neg c3, if_neg c4, wind_eq l t (by omega)]; rfl
  rw [e]
  rw [hpl] at c4
  repeat' (first | (simp (disch := first | omega | assumption | (refine @id ((_ : Bool) = _) ?_; exact id (by with_unfolding_all rfl)) | (exact Or.inl rfl) | (exact Or.inl trivial) | (exact okL_map _ (fun _ => rfl) _) | (simp only [List.length_map, List.length_set, List.length_replicate, List.length_cons, List.length_nil, List.length_append] <;> omega) | fail) only [VV0, VV1, VV2, VV3, VV4, VV5, VV6, VV7, mkFnV, vargs, slotsL, opdsA, not_true_eq_false, not_false_eq_true, decide_true, decide_false, Option.map_some, Option.bind_some, List.cons_append, List.nil_append, List.map_cons, List.map_nil, List.append_nil, Option.toList_some, Option.toList_none, Nat.reduceEqDiff, Nat.reduceLT, Nat.reduceAdd, Nat.reduceBEq, Int.reduceAdd, Int.reduceSub, Int.reduceLT, Int.reduceLE, Int.reduceEq, Int.reduceNeg, ↓reduceIte, if_true, if_false, Bool.false_eq_true, Bool.not_true, Bool.not_false, List.length_cons, List.length_nil, List.length_singleton, reduceCtorEq, Int.toNat_natCast, Nat.zero_add, Nat.add_zero, Nat.mul_one, Int.add_sub_cancel, eq_self, List.drop_zero, List.drop_succ_cons, Option.some.injEq, Prod.mk.injEq, Bool.and_true, Bool.true_and, Bool.and_self, true_or, List.set_cons_zero, List.set_cons_succ, scL, scD, expand, List.replicate, c5]) | (refine gC_drawW ?_) | (refine gI_dec (fun _ => ?_) (fun _ => ?_)) | (refine gG_dec (fun _ => ?_) (fun _ => ?_)) | (refine gPG_dec (fun _ => ?_) (fun _ => ?_)) | (refine gI_var (fun _ => ?_) (fun _ => ?_)) | (refine gG_var (fun _ => ?_) (fun _ => ?_)) | (refine gPG_var (fun _ => ?_) (fun _ => ?_)))
  refine callV_flat (hck _) ?_
  repeat' (first | (simp (disch := first | omega | assumption | (refine @id ((_ : Bool) = _) ?_; exact id (by with_unfolding_all rfl)) | (exact Or.inl rfl) | (exact Or.inl trivial) | (exact okL_map _ (fun _ => rfl) _) | (simp only [List.length_map, List.length_set, List.length_replicate, List.length_cons, List.length_nil, List.length_append] <;> omega) | fail) only [VV0, VV1, VV2, VV3, VV4, VV5, VV6, VV7, mkFnV, vargs, slotsL, opdsA, not_true_eq_false, not_false_eq_true, decide_true, decide_false, Option.map_some, Option.bind_some, List.cons_append, List.nil_append, List.map_cons, List.map_nil, List.append_nil, Option.toList_some, Option.toList_none, Nat.reduceEqDiff, Nat.reduceLT, Nat.reduceAdd, Nat.reduceBEq, Int.reduceAdd, Int.reduceSub, Int.reduceLT, Int.reduceLE, Int.reduceEq, Int.reduceNeg, ↓reduceIte, if_true, if_false, Bool.false_eq_true, Bool.not_true, Bool.not_false, List.length_cons, List.length_nil, List.length_singleton, reduceCtorEq, Int.toNat_natCast, Nat.zero_add, Nat.add_zero, Nat.mul_one, Int.add_sub_cancel, eq_self, List.drop_zero, List.drop_succ_cons, Option.some.injEq, Prod.mk.injEq, Bool.and_true, Bool.true_and, Bool.and_self, true_or, List.set_cons_zero, List.set_cons_succ, scL, scD, expand, List.replicate, hpl]) | (refine gC_drawW ?_) | (refine gI_dec (fun _ => ?_) (fun _ => ?_)) | (refine gG_dec (fun _ => ?_) (fun _ => ?_)) | (refine gPG_dec (fun _ => ?_) (fun _ => ?_)) | (refine gI_var (fun _ => ?_) (fun _ => ?_)) | (refine gG_var (fun _ => ?_) (fun _ => ?_)) | (refine gPG_var (fun _ => ?_) (fun _ => ?_)))
  refine callV_flat ((fun st => (of_p w (n + 4) t).of hC rfl st rfl) _) ?_
  repeat' (first | (simp (disch := first | omega | assumption | (refine @id ((_ : Bool) = _) ?_; exact id (by with_unfolding_all rfl)) | (exact Or.inl rfl) | (exact Or.inl trivial) | (exact okL_map _ (fun _ => rfl) _) | (simp only [List.length_map, List.length_set, List.length_replicate, List.length_cons, List.length_nil, List.length_append] <;> omega) | fail) only [VV0, VV1, VV2, VV3, VV4, VV5, VV6, VV7, mkFnV, vargs, slotsL, opdsA, not_true_eq_false, not_false_eq_true, decide_true, decide_false, Option.map_some, Option.bind_some, List.cons_append, List.nil_append, List.map_cons, List.map_nil, List.append_nil, Option.toList_some, Option.toList_none, Nat.reduceEqDiff, Nat.reduceLT, Nat.reduceAdd, Nat.reduceBEq, Int.reduceAdd, Int.reduceSub, Int.reduceLT, Int.reduceLE, Int.reduceEq, Int.reduceNeg, ↓reduceIte, if_true, if_false, Bool.false_eq_true, Bool.not_true, Bool.not_false, List.length_cons, List.length_nil, List.length_singleton, reduceCtorEq, Int.toNat_natCast, Nat.zero_add, Nat.add_zero, Nat.mul_one, Int.add_sub_cancel, eq_self, List.drop_zero, List.drop_succ_cons, Option.some.injEq, Prod.mk.injEq, Bool.and_true, Bool.true_and, Bool.and_self, true_or, List.set_cons_zero, List.set_cons_succ, scL, scD, expand, List.replicate]) | (refine gC_drawW ?_) | (refine gI_dec (fun _ => ?_) (fun _ => ?_)) | (refine gG_dec (fun _ => ?_) (fun _ => ?_)) | (refine gPG_dec (fun _ => ?_) (fun _ => ?_)) | (refine gI_var (fun _ => ?_) (fun _ => ?_)) | (refine gG_var (fun _ => ?_) (fun _ => ?_)) | (refine gPG_var (fun _ => ?_) (fun _ => ?_)))
  refine callV_of (by rw [hC]; exact wind_p w (n + 2) t s l q (by omega) hl hq) rfl rfl rfl ?_
  repeat' (first | (simp (disch := first | omega | assumption | (refine @id ((_ : Bool) = _) ?_; exact id (by with_unfolding_all rfl)) | (exact Or.inl rfl) | (exact Or.inl trivial) | (exact okL_map _ (fun _ => rfl) _) | (simp only [List.length_map, List.length_set, List.length_replicate, List.length_cons, List.length_nil, List.length_append] <;> omega) | fail) only [VV0, VV1, VV2, VV3, VV4, VV5, VV6, VV7, mkFnV, vargs, slotsL, opdsA, not_true_eq_false, not_false_eq_true, decide_true, decide_false, Option.map_some, Option.bind_some, List.cons_append, List.nil_append, List.map_cons, List.map_nil, List.append_nil, Option.toList_some, Option.toList_none, Nat.reduceEqDiff, Nat.reduceLT, Nat.reduceAdd, Nat.reduceBEq, Int.reduceAdd, Int.reduceSub, Int.reduceLT, Int.reduceLE, Int.reduceEq, Int.reduceNeg, ↓reduceIte, if_true, if_false, Bool.false_eq_true, Bool.not_true, Bool.not_false, List.length_cons, List.length_nil, List.length_singleton, reduceCtorEq, Int.toNat_natCast, Nat.zero_add, Nat.add_zero, Nat.mul_one, Int.add_sub_cancel, eq_self, List.drop_zero, List.drop_succ_cons, Option.some.injEq, Prod.mk.injEq, Bool.and_true, Bool.true_and, Bool.and_self, true_or, List.set_cons_zero, List.set_cons_succ, scL, scD, expand, List.replicate, vsh, shH, shO, fzSL, fzS]) | (refine gC_drawW ?_) | (refine gI_dec (fun _ => ?_) (fun _ => ?_)) | (refine gG_dec (fun _ => ?_) (fun _ => ?_)) | (refine gPG_dec (fun _ => ?_) (fun _ => ?_)) | (refine gI_var (fun _ => ?_) (fun _ => ?_)) | (refine gG_var (fun _ => ?_) (fun _ => ?_)) | (refine gPG_var (fun _ => ?_) (fun _ => ?_)))
  exact .refl _ _
theorem equal_o (st : VSt) (o t s : Nat) (z : Bool) (a l : List Int) (ho : aget st.own o = some (.gro t 1 z (a.map iD))) (ha : a.length ≤ 140737488351232) (hl : l.length ≤ 140737488351232) : VSpecO (EN w (n + 1)) 17 st [.gr 2 o a.length, .sl s l.length (l.map iD)] (.sc (.bool (decide (a = l)))) := by
  refine vspecO_g rfl rfl (fun _ _ => rfl) (Nat.le_of_ble_eq_true rfl) rfl fun C hC h0 => ⟨⟨st.own, st.next, st.next⟩, ?_⟩
  by_cases hlen : (a.length : Int) = (l.length : Int)
  case neg =>
    rw [decide_eq_false (fun h => hlen (by rw [h]))]
    repeat' (first | (simp (disch := first | omega | assumption | (refine @id ((_ : Bool) = _) ?_; exact id (by with_unfolding_all rfl)) | (exact Or.inl rfl) | (exact Or.inl trivial) | (exact okL_map _ (fun _ => rfl) _) | (simp only [List.length_map, List.length_set, List.length_replicate, List.length_cons, List.length_nil, List.length_append] <;> omega) | fail) only [VV0, VV1, VV2, VV3, VV4, VV5, VV6, VV7, mkFnV, vargs, slotsL, opdsA, not_true_eq_false, not_false_eq_true, decide_true, decide_false, Option.map_some, Option.bind_some, List.cons_append, List.nil_append, List.map_cons, List.map_nil, List.append_nil, Option.toList_some, Option.toList_none, Nat.reduceEqDiff, Nat.reduceLT, Nat.reduceAdd, Nat.reduceBEq, Int.reduceAdd, Int.reduceSub, Int.reduceLT, Int.reduceLE, Int.reduceEq, Int.reduceNeg, ↓reduceIte, if_true, if_false, Bool.false_eq_true, Bool.not_true, Bool.not_false, List.length_cons, List.length_nil, List.length_singleton, reduceCtorEq, Int.toNat_natCast, Nat.zero_add, Nat.add_zero, Nat.mul_one, Int.add_sub_cancel, eq_self, List.drop_zero, List.drop_succ_cons, Option.some.injEq, Prod.mk.injEq, Bool.and_true, Bool.true_and, Bool.and_self, true_or, List.set_cons_zero, List.set_cons_succ, scL, scD, expand, List.replicate, c17]) | (refine gC_drawW ?_) | (refine gI_dec (fun _ => ?_) (fun _ => ?_)) | (refine gG_dec (fun _ => ?_) (fun _ => ?_)) | (refine gPG_dec (fun _ => ?_) (fun _ => ?_)) | (refine gI_var (fun _ => ?_) (fun _ => ?_)) | (refine gG_var (fun _ => ?_) (fun _ => ?_)) | (refine gPG_var (fun _ => ?_) (fun _ => ?_)))
    all_goals first | exact .refl _ _ | exact absurd ‹_› hlen
  have hlen' : a.length = l.length := by omega
  repeat' (first | (simp (disch := first | omega | assumption | (refine @id ((_ : Bool) = _) ?_; exact id (by with_unfolding_all rfl)) | (exact Or.inl rfl) | (exact Or.inl trivial) | (exact okL_map _ (fun _ => rfl) _) | (simp only [List.length_map, List.length_set, List.length_replicate, List.length_cons, List.length_nil, List.length_append] <;> omega) | fail) only [VV0, VV1, VV2, VV3, VV4, VV5, VV6, VV7, mkFnV, vargs, slotsL, opdsA, not_true_eq_false, not_false_eq_true, decide_true, decide_false, Option.map_some, Option.bind_some, List.cons_append, List.nil_append, List.map_cons, List.map_nil, List.append_nil, Option.toList_some, Option.toList_none, Nat.reduceEqDiff, Nat.reduceLT, Nat.reduceAdd, Nat.reduceBEq, Int.reduceAdd, Int.reduceSub, Int.reduceLT, Int.reduceLE, Int.reduceEq, Int.reduceNeg, ↓reduceIte, if_true, if_false, Bool.false_eq_true, Bool.not_true, Bool.not_false, List.length_cons, List.length_nil, List.length_singleton, reduceCtorEq, Int.toNat_natCast, Nat.zero_add, Nat.add_zero, Nat.mul_one, Int.add_sub_cancel, eq_self, List.drop_zero, List.drop_succ_cons, Option.some.injEq, Prod.mk.injEq, Bool.and_true, Bool.true_and, Bool.and_self, true_or, List.set_cons_zero, List.set_cons_succ, scL, scD, expand, List.replicate, c17]) | (refine gC_drawW ?_) | (refine gI_dec (fun _ => ?_) (fun _ => ?_)) | (refine gG_dec (fun _ => ?_) (fun _ => ?_)) | (refine gPG_dec (fun _ => ?_) (fun _ => ?_)) | (refine gI_var (fun _ => ?_) (fun _ => ?_)) | (refine gG_var (fun _ => ?_) (fun _ => ?_)) | (refine gPG_var (fun _ => ?_) (fun _ => ?_)))
  all_goals try exact absurd hlen ‹¬(a.length : Int) = (l.length : Int)›
  refine g_while (fun m fr t => ∃ k : Nat, m = l.length - k ∧ k ≤ l.length ∧ (∀ j, j < k → a[j]! = l[j]!) ∧ fr = [(0, .gr 2 o a.length), (1, .sl s l.length (l.map iD)), (12, .sc (.int .i64 a.length)), (13, .sc (.int .i64 k))] ∧ t = ⟨st.own, st.next, st.next⟩) l.length ?_ ⟨_, _, .refl _ _, 0, ?_⟩ ?_
  · rw [hC, callP_rounds]; unfold many; omega
  · exact ⟨by omega, by omega, (fun j hj => absurd hj (Nat.not_lt_zero _)), rfl, rfl⟩
  · rintro m fr t ⟨k, rfl, hk, hj, rfl, rfl⟩
    by_cases hlt : k < l.length
    · have hka : k < a.length := by omega
      by_cases he : a[k]! = l[k]!
      · repeat' (first | (simp (disch := first | omega | assumption | (refine @id ((_ : Bool) = _) ?_; exact id (by with_unfolding_all rfl)) | (exact Or.inl rfl) | (exact Or.inl trivial) | (exact okL_map _ (fun _ => rfl) _) | (simp only [List.length_map, List.length_set, List.length_replicate, List.length_cons, List.length_nil, List.length_append] <;> omega) | fail) only [VV0, VV1, VV2, VV3, VV4, VV5, VV6, VV7, mkFnV, vargs, slotsL, opdsA, not_true_eq_false, not_false_eq_true, decide_true, decide_false, Option.map_some, Option.bind_some, List.cons_append, List.nil_append, List.map_cons, List.map_nil, List.append_nil, Option.toList_some, Option.toList_none, Nat.reduceEqDiff, Nat.reduceLT, Nat.reduceAdd, Nat.reduceBEq, Int.reduceAdd, Int.reduceSub, Int.reduceLT, Int.reduceLE, Int.reduceEq, Int.reduceNeg, ↓reduceIte, if_true, if_false, Bool.false_eq_true, Bool.not_true, Bool.not_false, List.length_cons, List.length_nil, List.length_singleton, reduceCtorEq, Int.toNat_natCast, Nat.zero_add, Nat.add_zero, Nat.mul_one, Int.add_sub_cancel, eq_self, List.drop_zero, List.drop_succ_cons, Option.some.injEq, Prod.mk.injEq, Bool.and_true, Bool.true_and, Bool.and_self, true_or, List.set_cons_zero, List.set_cons_succ, scL, scD, expand, List.replicate, c17l0, iD_dv, ho]) | (refine gC_drawW ?_) | (refine gI_dec (fun _ => ?_) (fun _ => ?_)) | (refine gG_dec (fun _ => ?_) (fun _ => ?_)) | (refine gPG_dec (fun _ => ?_) (fun _ => ?_)) | (refine gI_var (fun _ => ?_) (fun _ => ?_)) | (refine gG_var (fun _ => ?_) (fun _ => ?_)) | (refine gPG_var (fun _ => ?_) (fun _ => ?_)))
        all_goals first | exact ⟨_, _, _, by omega, .refl _ _, k + 1, rfl, hlt, (fun j h => by rcases Nat.lt_succ_iff_lt_or_eq.1 h with h | h; exact hj j h; subst h; exact he), rfl, rfl⟩ | exact absurd he ‹_›
      · rw [decide_eq_false (fun h => he (by rw [h]))]
        repeat' (first | (simp (disch := first | omega | assumption | (refine @id ((_ : Bool) = _) ?_; exact id (by with_unfolding_all rfl)) | (exact Or.inl rfl) | (exact Or.inl trivial) | (exact okL_map _ (fun _ => rfl) _) | (simp only [List.length_map, List.length_set, List.length_replicate, List.length_cons, List.length_nil, List.length_append] <;> omega) | fail) only [VV0, VV1, VV2, VV3, VV4, VV5, VV6, VV7, mkFnV, vargs, slotsL, opdsA, not_true_eq_false, not_false_eq_true, decide_true, decide_false, Option.map_some, Option.bind_some, List.cons_append, List.nil_append, List.map_cons, List.map_nil, List.append_nil, Option.toList_some, Option.toList_none, Nat.reduceEqDiff, Nat.reduceLT, Nat.reduceAdd, Nat.reduceBEq, Int.reduceAdd, Int.reduceSub, Int.reduceLT, Int.reduceLE, Int.reduceEq, Int.reduceNeg, ↓reduceIte, if_true, if_false, Bool.false_eq_true, Bool.not_true, Bool.not_false, List.length_cons, List.length_nil, List.length_singleton, reduceCtorEq, Int.toNat_natCast, Nat.zero_add, Nat.add_zero, Nat.mul_one, Int.add_sub_cancel, eq_self, List.drop_zero, List.drop_succ_cons, Option.some.injEq, Prod.mk.injEq, Bool.and_true, Bool.true_and, Bool.and_self, true_or, List.set_cons_zero, List.set_cons_succ, scL, scD, expand, List.replicate, c17l0, iD_dv, ho]) | (refine gC_drawW ?_) | (refine gI_dec (fun _ => ?_) (fun _ => ?_)) | (refine gG_dec (fun _ => ?_) (fun _ => ?_)) | (refine gPG_dec (fun _ => ?_) (fun _ => ?_)) | (refine gI_var (fun _ => ?_) (fun _ => ?_)) | (refine gG_var (fun _ => ?_) (fun _ => ?_)) | (refine gPG_var (fun _ => ?_) (fun _ => ?_)))
        all_goals first | exact .refl _ _ | exact absurd ‹_› he
    · have : k = l.length := by omega
      subst this
      rw [decide_eq_true (eq_of_all hlen' hj)]
      repeat' (first | (simp (disch := first | omega | assumption | (refine @id ((_ : Bool) = _) ?_; exact id (by with_unfolding_all rfl)) | (exact Or.inl rfl) | (exact Or.inl trivial) | (exact okL_map _ (fun _ => rfl) _) | (simp only [List.length_map, List.length_set, List.length_replicate, List.length_cons, List.length_nil, List.length_append] <;> omega) | fail) only [VV0, VV1, VV2, VV3, VV4, VV5, VV6, VV7, mkFnV, vargs, slotsL, opdsA, not_true_eq_false, not_false_eq_true, decide_true, decide_false, Option.map_some, Option.bind_some, List.cons_append, List.nil_append, List.map_cons, List.map_nil, List.append_nil, Option.toList_some, Option.toList_none, Nat.reduceEqDiff, Nat.reduceLT, Nat.reduceAdd, Nat.reduceBEq, Int.reduceAdd, Int.reduceSub, Int.reduceLT, Int.reduceLE, Int.reduceEq, Int.reduceNeg, ↓reduceIte, if_true, if_false, Bool.false_eq_true, Bool.not_true, Bool.not_false, List.length_cons, List.length_nil, List.length_singleton, reduceCtorEq, Int.toNat_natCast, Nat.zero_add, Nat.add_zero, Nat.mul_one, Int.add_sub_cancel, eq_self, List.drop_zero, List.drop_succ_cons, Option.some.injEq, Prod.mk.injEq, Bool.and_true, Bool.true_and, Bool.and_self, true_or, List.set_cons_zero, List.set_cons_succ, scL, scD, expand, List.replicate, c17l0]) | (refine gC_drawW ?_) | (refine gI_dec (fun _ => ?_) (fun _ => ?_)) | (refine gG_dec (fun _ => ?_) (fun _ => ?_)) | (refine gPG_dec (fun _ => ?_) (fun _ => ?_)) | (refine gI_var (fun _ => ?_) (fun _ => ?_)) | (refine gG_var (fun _ => ?_) (fun _ => ?_)) | (refine gPG_var (fun _ => ?_) (fun _ => ?_)))
      exact .refl _ _
end
end Go.Proofs.Ytgglaaldlegckaa
namespace Go.Proofs.Ytgglaaldlegckaa
open Go Go.Itp
set_option maxRecDepth 100000
set_option maxHeartbeats 1000000
set_option linter.unusedSimpArgs false
def conesF (l : List Int) (k : Int) (t : Bool) : List Int × Int :=
  if chk l ≠ 0 then ([], chk l) else if k < 1 ∨ 64 < k then ([], 2) else if l.length = 0 ∨ l.length % k.toNat ≠ 0 then ([], 26) else if windR (l.take k.toNat) t l.length = l then (l.take k.toNat, 0) else ([], 6)
theorem take_get {l : List Int} {q i : Nat} (h : i < q) (hq : q ≤ l.length) : (l.take q)[i]! = l[i]! := by
  rw [getElem!_pos _ _ (by rw [List.length_take]; omega), getElem!_pos l i (by omega), List.getElem_take]
theorem cones_iff {l : List Int} {q : Nat} {t : Bool} (h0 : 0 < q) (hq : q ≤ l.length) : windR (l.take q) t l.length = l ↔ ∀ i, q ≤ i → i < l.length → l[i]! = l[cone i q t]! := by
  have hlq : (l.take q).length = q := by rw [List.length_take]; omega
  have key : ∀ i, i < l.length → (windR (l.take q) t l.length)[i]! = l[cone i q t]! := fun i hi => by
    rw [windR_get _ _ _ _ hi, hlq, take_get (cone_lt t h0) hq]
  constructor
  · intro h i h1 h2
    have := key i h2
    rwa [h] at this
  · intro h
    refine eq_of_all (windR_len _ _ _) fun j hj => ?_
    rw [key j hj]
    by_cases hjq : j < q
    · have : cone j q t = j := by
        unfold cone
        rw [Nat.div_eq_of_lt hjq, Nat.mod_eq_of_lt hjq]
        simp
      rw [this]
    · exact (h j (by omega) hj).symm
section
variable (w : World) (n : Nat)
theorem pcones_p (s : Nat) (l : List Int) (p : Int) (t : Bool) (hl : l.length ≤ 5000) : VSpec (EN w (n + 6)) 7 [.sl s l.length (l.map iD), .sc (.int .i64 p), .sc (.bool t)] (resV (conesF l p t)) (resS (conesF l p t)) := by
  refine vspec_g rfl rfl (fun _ _ => rfl) (Nat.le_of_ble_eq_true rfl) (oldVals w) (retOK_tgr (map_nil_iff rfl)) rfl fun C hC h0 => ?_
  have hck := fun st => (check_p w n s l (by omega)).of hC rfl st rfl
  by_cases c2 : chk l ≠ 0
  · have e : conesF l p t = ([], chk l) := if_pos c2
    rw [e]
    generalize chk l = x at c2 hck
    repeat' (first | (simp (disch := first | omega | assumption | (refine @id ((_ : Bool) = _) ?_; exact id (by with_unfolding_all rfl)) | (exact Or.inl rfl) | (exact Or.inl trivial) | (exact okL_map _ (fun _ => rfl) _) | (simp only [List.length_map, List.length_set, List.length_replicate, List.length_cons, List.length_nil, List.length_append] <;> omega) | fail) only [VV0, VV1, VV2, VV3, VV4, VV5, VV6, VV7, mkFnV, vargs, slotsL, opdsA, not_true_eq_false, not_false_eq_true, decide_true, decide_false, Option.map_some, Option.bind_some, List.cons_append, List.nil_append, List.map_cons, List.map_nil, List.append_nil, Option.toList_some, Option.toList_none, Nat.reduceEqDiff, Nat.reduceLT, Nat.reduceAdd, Nat.reduceBEq, Int.reduceAdd, Int.reduceSub, Int.reduceLT, Int.reduceLE, Int.reduceEq, Int.reduceNeg, ↓reduceIte, if_true, if_false, Bool.false_eq_true, Bool.not_true, Bool.not_false, List.length_cons, List.length_nil, List.length_singleton, reduceCtorEq, Int.toNat_natCast, Nat.zero_add, Nat.add_zero, Nat.mul_one, Int.add_sub_cancel, eq_self, List.drop_zero, List.drop_succ_cons, Option.some.injEq, Prod.mk.injEq, Bool.and_true, Bool.true_and, Bool.and_self, true_or, List.set_cons_zero, List.set_cons_succ, scL, scD, expand, List.replicate, c7]) | (refine gC_drawW ?_) | (refine gI_dec (fun _ => ?_) (fun _ => ?_)) | (refine gG_dec (fun _ => ?_) (fun _ => ?_)) | (refine gPG_dec (fun _ => ?_) (fun _ => ?_)) | (refine gI_var (fun _ => ?_) (fun _ => ?_)) | (refine gG_var (fun _ => ?_) (fun _ => ?_)) | (refine gPG_var (fun _ => ?_) (fun _ => ?_)))
    refine callV_flat (hck _) ?_
    repeat' (first | (simp (disch := first | omega | assumption | (refine @id ((_ : Bool) = _) ?_; exact id (by with_unfolding_all rfl)) | (exact Or.inl rfl) | (exact Or.inl trivial) | (exact okL_map _ (fun _ => rfl) _) | (simp only [List.length_map, List.length_set, List.length_replicate, List.length_cons, List.length_nil, List.length_append] <;> omega) | fail) only [VV0, VV1, VV2, VV3, VV4, VV5, VV6, VV7, mkFnV, vargs, slotsL, opdsA, not_true_eq_false, not_false_eq_true, decide_true, decide_false, Option.map_some, Option.bind_some, List.cons_append, List.nil_append, List.map_cons, List.map_nil, List.append_nil, Option.toList_some, Option.toList_none, Nat.reduceEqDiff, Nat.reduceLT, Nat.reduceAdd, Nat.reduceBEq, Int.reduceAdd, Int.reduceSub, Int.reduceLT, Int.reduceLE, Int.reduceEq, Int.reduceNeg, ↓reduceIte, if_true, if_false, Bool.false_eq_true, Bool.not_true, Bool.not_false, List.length_cons, List.length_nil, List.length_singleton, reduceCtorEq, Int.toNat_natCast, Nat.zero_add, Nat.add_zero, Nat.mul_one, Int.add_sub_cancel, eq_self, List.drop_zero, List.drop_succ_cons, Option.some.injEq, Prod.mk.injEq, Bool.and_true, Bool.true_and, Bool.and_self, true_or, List.set_cons_zero, List.set_cons_succ, scL, scD, expand, List.replicate]) | (refine gC_drawW ?_) | (refine gI_dec (fun _ => ?_) (fun _ => ?_)) | (refine gG_dec (fun _ => ?_) (fun _ => ?_)) | (refine gPG_dec (fun _ => ?_) (fun _ => ?_)) | (refine gI_var (fun _ => ?_) (fun _ => ?_)) | (refine gG_var (fun _ => ?_) (fun _ => ?_)) | (refine gPG_var (fun _ => ?_) (fun _ => ?_)))
    all_goals first | exact weak_tupNil 3 1 rfl h0 rfl | exact absurd trivial ‹¬True› | contradiction
  have c2' : chk l = 0 := Classical.not_not.1 c2
  rw [c2'] at hck
  by_cases c3 : p < 1 ∨ 64 < p
  · have e : conesF l p t = ([], 2) := by unfold conesF; rw [if_neg c2, if_pos c3]
    rw [e]
    rcases c3 with c3 | c3
    all_goals
      repeat' (first | (simp (disch := first | omega | assumption | (refine @id ((_ : Bool) = _) ?_; exact id (by with_unfolding_all rfl)) | (exact Or.inl rfl) | (exact Or.inl trivial) | (exact okL_map _ (fun _ => rfl) _) | (simp only [List.length_map, List.length_set, List.length_replicate, List.length_cons, List.length_nil, List.length_append] <;> omega) | fail) only [VV0, VV1, VV2, VV3, VV4, VV5, VV6, VV7, mkFnV, vargs, slotsL, opdsA, not_true_eq_false, not_false_eq_true, decide_true, decide_false, Option.map_some, Option.bind_some, List.cons_append, List.nil_append, List.map_cons, List.map_nil, List.append_nil, Option.toList_some, Option.toList_none, Nat.reduceEqDiff, Nat.reduceLT, Nat.reduceAdd, Nat.reduceBEq, Int.reduceAdd, Int.reduceSub, Int.reduceLT, Int.reduceLE, Int.reduceEq, Int.reduceNeg, ↓reduceIte, if_true, if_false, Bool.false_eq_true, Bool.not_true, Bool.not_false, List.length_cons, List.length_nil, List.length_singleton, reduceCtorEq, Int.toNat_natCast, Nat.zero_add, Nat.add_zero, Nat.mul_one, Int.add_sub_cancel, eq_self, List.drop_zero, List.drop_succ_cons, Option.some.injEq, Prod.mk.injEq, Bool.and_true, Bool.true_and, Bool.and_self, true_or, List.set_cons_zero, List.set_cons_succ, scL, scD, expand, List.replicate, c7]) | (refine gC_drawW ?_) | (refine gI_dec (fun _ => ?_) (fun _ => ?_)) | (refine gG_dec (fun _ => ?_) (fun _ => ?_)) | (refine gPG_dec (fun _ => ?_) (fun _ => ?_)) | (refine gI_var (fun _ => ?_) (fun _ => ?_)) | (refine gG_var (fun _ => ?_) (fun _ => ?_)) | (refine gPG_var (fun _ => ?_) (fun _ => ?_)))
      refine callV_flat (hck _) ?_
      repeat' (first | (simp (disch := first | omega | assumption | (refine @id ((_ : Bool) = _) ?_; exact id (by with_unfolding_all rfl)) | (exact Or.inl rfl) | (exact Or.inl trivial) | (exact okL_map _ (fun _ => rfl) _) | (simp only [List.length_map, List.length_set, List.length_replicate, List.length_cons, List.length_nil, List.length_append] <;> omega) | fail) only [VV0, VV1, VV2, VV3, VV4, VV5, VV6, VV7, mkFnV, vargs, slotsL, opdsA, not_true_eq_false, not_false_eq_true, decide_true, decide_false, Option.map_some, Option.bind_some, List.cons_append, List.nil_append, List.map_cons, List.map_nil, List.append_nil, Option.toList_some, Option.toList_none, Nat.reduceEqDiff, Nat.reduceLT, Nat.reduceAdd, Nat.reduceBEq, Int.reduceAdd, Int.reduceSub, Int.reduceLT, Int.reduceLE, Int.reduceEq, Int.reduceNeg, ↓reduceIte, if_true, if_false, Bool.false_eq_true, Bool.not_true, Bool.not_false, List.length_cons, List.length_nil, List.length_singleton, reduceCtorEq, Int.toNat_natCast, Nat.zero_add, Nat.add_zero, Nat.mul_one, Int.add_sub_cancel, eq_self, List.drop_zero, List.drop_succ_cons, Option.some.injEq, Prod.mk.injEq, Bool.and_true, Bool.true_and, Bool.and_self, true_or, List.set_cons_zero, List.set_cons_succ, scL, scD, expand, List.replicate]) | (refine gC_drawW ?_) | (refine gI_dec (fun _ => ?_) (fun _ => ?_)) | (refine gG_dec (fun _ => ?_) (fun _ => ?_)) | (refine gPG_dec (fun _ => ?_) (fun _ => ?_)) | (refine gI_var (fun _ => ?_) (fun _ => ?_)) | (refine gG_var (fun _ => ?_) (fun _ => ?_)) | (refine gPG_var (fun _ => ?_) (fun _ => ?_)))
      all_goals first | exact weak_tupNil 3 1 rfl h0 rfl | exact absurd trivial ‹¬True›
  obtain ⟨q, rfl⟩ : ∃ q : Nat, p = q := ⟨p.toNat, by omega⟩
  have hm : (l.length : Int) % (q : Int) = ((l.length % q : Nat) : Int) := by simp
  have hd : (l.length : Int) / (q : Int) = ((l.length / q : Nat) : Int) := by simp
  by_cases c4 : l.length = 0 ∨ l.length % q ≠ 0
  · have e : conesF l q t = ([], 26) := by unfold conesF; rw [if_neg c2, if_neg c3, if_pos (by simpa using c4)]
    rw [e]
    rcases c4 with c4 | c4
    · repeat' (first | (simp (disch := first | omega | assumption | (refine @id ((_ : Bool) = _) ?_; exact id (by with_unfolding_all rfl)) | (exact Or.inl rfl) | (exact Or.inl trivial) | (exact okL_map _ (fun _ => rfl) _) | (simp only [List.length_map, List.length_set, List.length_replicate, List.length_cons, List.length_nil, List.length_append] <;> omega) | fail) only [VV0, VV1, VV2, VV3, VV4, VV5, VV6, VV7, mkFnV, vargs, slotsL, opdsA, not_true_eq_false, not_false_eq_true, decide_true, decide_false, Option.map_some, Option.bind_some, List.cons_append, List.nil_append, List.map_cons, List.map_nil, List.append_nil, Option.toList_some, Option.toList_none, Nat.reduceEqDiff, Nat.reduceLT, Nat.reduceAdd, Nat.reduceBEq, Int.reduceAdd, Int.reduceSub, Int.reduceLT, Int.reduceLE, Int.reduceEq, Int.reduceNeg, ↓reduceIte, if_true, if_false, Bool.false_eq_true, Bool.not_true, Bool.not_false, List.length_cons, List.length_nil, List.length_singleton, reduceCtorEq, Int.toNat_natCast, Nat.zero_add, Nat.add_zero, Nat.mul_one, Int.add_sub_cancel, eq_self, List.drop_zero, List.drop_succ_cons, Option.some.injEq, Prod.mk.injEq, Bool.and_true, Bool.true_and, Bool.and_self, true_or, List.set_cons_zero, List.set_cons_succ, scL, scD, expand, List.replicate, c7, c4]) | (refine gC_drawW ?_) | (refine gI_dec (fun _ => ?_) (fun _ => ?_)) | (refine gG_dec (fun _ => ?_) (fun _ => ?_)) | (refine gPG_dec (fun _ => ?_) (fun _ => ?_)) | (refine gI_var (fun _ => ?_) (fun _ => ?_)) | (refine gG_var (fun _ => ?_) (fun _ => ?_)) | (refine gPG_var (fun _ => ?_) (fun _ => ?_)))
      refine callV_flat (by have := hck ⟨[], 0, 0⟩; rw [c4] at this; exact this) ?_
      repeat' (first | (simp (disch := first | omega | assumption | (refine @id ((_ : Bool) = _) ?_; exact id (by with_unfolding_all rfl)) | (exact Or.inl rfl) | (exact Or.inl trivial) | (exact okL_map _ (fun _ => rfl) _) | (simp only [List.length_map, List.length_set, List.length_replicate, List.length_cons, List.length_nil, List.length_append] <;> omega) | fail) only [VV0, VV1, VV2, VV3, VV4, VV5, VV6, VV7, mkFnV, vargs, slotsL, opdsA, not_true_eq_false, not_false_eq_true, decide_true, decide_false, Option.map_some, Option.bind_some, List.cons_append, List.nil_append, List.map_cons, List.map_nil, List.append_nil, Option.toList_some, Option.toList_none, Nat.reduceEqDiff, Nat.reduceLT, Nat.reduceAdd, Nat.reduceBEq, Int.reduceAdd, Int.reduceSub, Int.reduceLT, Int.reduceLE, Int.reduceEq, Int.reduceNeg, ↓reduceIte, if_true, if_false, Bool.false_eq_true, Bool.not_true, Bool.not_false, List.length_cons, List.length_nil, List.length_singleton, reduceCtorEq, Int.toNat_natCast, Nat.zero_add, Nat.add_zero, Nat.mul_one, Int.add_sub_cancel, eq_self, List.drop_zero, List.drop_succ_cons, Option.some.injEq, Prod.mk.injEq, Bool.and_true, Bool.true_and, Bool.and_self, true_or, List.set_cons_zero, List.set_cons_succ, scL, scD, expand, List.replicate]) | (refine gC_drawW ?_) | (refine gI_dec (fun _ => ?_) (fun _ => ?_)) | (refine gG_dec (fun _ => ?_) (fun _ => ?_)) | (refine gPG_dec (fun _ => ?_) (fun _ => ?_)) | (refine gI_var (fun _ => ?_) (fun _ => ?_)) | (refine gG_var (fun _ => ?_) (fun _ => ?_)) | (refine gPG_var (fun _ => ?_) (fun _ => ?_)))
      all_goals first | exact weak_tupNil 3 1 rfl h0 rfl | exact absurd trivial ‹¬True›
    · repeat' (first | (simp (disch := first | omega | assumption | (refine @id ((_ : Bool) = _) ?_; exact id (by with_unfolding_all rfl)) | (exact Or.inl rfl) | (exact Or.inl trivial) | (exact okL_map _ (fun _ => rfl) _) | (simp only [List.length_map, List.length_set, List.length_replicate, List.length_cons, List.length_nil, List.length_append] <;> omega) | fail) only [VV0, VV1, VV2, VV3, VV4, VV5, VV6, VV7, mkFnV, vargs, slotsL, opdsA, not_true_eq_false, not_false_eq_true, decide_true, decide_false, Option.map_some, Option.bind_some, List.cons_append, List.nil_append, List.map_cons, List.map_nil, List.append_nil, Option.toList_some, Option.toList_none, Nat.reduceEqDiff, Nat.reduceLT, Nat.reduceAdd, Nat.reduceBEq, Int.reduceAdd, Int.reduceSub, Int.reduceLT, Int.reduceLE, Int.reduceEq, Int.reduceNeg, ↓reduceIte, if_true, if_false, Bool.false_eq_true, Bool.not_true, Bool.not_false, List.length_cons, List.length_nil, List.length_singleton, reduceCtorEq, Int.toNat_natCast, Nat.zero_add, Nat.add_zero, Nat.mul_one, Int.add_sub_cancel, eq_self, List.drop_zero, List.drop_succ_cons, Option.some.injEq, Prod.mk.injEq, Bool.and_true, Bool.true_and, Bool.and_self, true_or, List.set_cons_zero, List.set_cons_succ, scL, scD, expand, List.replicate, c7]) | (refine gC_drawW ?_) | (refine gI_dec (fun _ => ?_) (fun _ => ?_)) | (refine gG_dec (fun _ => ?_) (fun _ => ?_)) | (refine gPG_dec (fun _ => ?_) (fun _ => ?_)) | (refine gI_var (fun _ => ?_) (fun _ => ?_)) | (refine gG_var (fun _ => ?_) (fun _ => ?_)) | (refine gPG_var (fun _ => ?_) (fun _ => ?_)))
      refine callV_flat (hck _) ?_
      repeat' (first | (simp (disch := first | omega | assumption | (refine @id ((_ : Bool) = _) ?_; exact id (by with_unfolding_all rfl)) | (exact Or.inl rfl) | (exact Or.inl trivial) | (exact okL_map _ (fun _ => rfl) _) | (simp only [List.length_map, List.length_set, List.length_replicate, List.length_cons, List.length_nil, List.length_append] <;> omega) | fail) only [VV0, VV1, VV2, VV3, VV4, VV5, VV6, VV7, mkFnV, vargs, slotsL, opdsA, not_true_eq_false, not_false_eq_true, decide_true, decide_false, Option.map_some, Option.bind_some, List.cons_append, List.nil_append, List.map_cons, List.map_nil, List.append_nil, Option.toList_some, Option.toList_none, Nat.reduceEqDiff, Nat.reduceLT, Nat.reduceAdd, Nat.reduceBEq, Int.reduceAdd, Int.reduceSub, Int.reduceLT, Int.reduceLE, Int.reduceEq, Int.reduceNeg, ↓reduceIte, if_true, if_false, Bool.false_eq_true, Bool.not_true, Bool.not_false, List.length_cons, List.length_nil, List.length_singleton, reduceCtorEq, Int.toNat_natCast, Nat.zero_add, Nat.add_zero, Nat.mul_one, Int.add_sub_cancel, eq_self, List.drop_zero, List.drop_succ_cons, Option.some.injEq, Prod.mk.injEq, Bool.and_true, Bool.true_and, Bool.and_self, true_or, List.set_cons_zero, List.set_cons_succ, scL, scD, expand, List.replicate, hm]) | (refine gC_drawW ?_) | (refine gI_dec (fun _ => ?_) (fun _ => ?_)) | (refine gG_dec (fun _ => ?_) (fun _ => ?_)) | (refine gPG_dec (fun _ => ?_) (fun _ => ?_)) | (refine gI_var (fun _ => ?_) (fun _ => ?_)) | (refine gG_var (fun _ => ?_) (fun _ => ?_)) | (refine gPG_var (fun _ => ?_) (fun _ => ?_)))
      all_goals first | exact weak_tupNil 3 1 rfl h0 rfl | exact absurd trivial ‹¬True› | (exfalso; omega)
  have c4a : l.length ≠ 0 := fun h => c4 (.inl h)
  have c4b : l.length % q = 0 := Classical.not_not.1 fun h => c4 (.inr h)
  have hq0 : 0 < q := by omega
  have hql : q ≤ l.length := by
    have := Nat.le_of_dvd (by omega) (Nat.dvd_of_mod_eq_zero c4b)
    exact this
  have hlq : (l.take q).length = q := by rw [List.length_take]; omega
  have hdm : l.length / q * q = l.length := Nat.div_mul_cancel (Nat.dvd_of_mod_eq_zero c4b)
  have hd0 : 0 < l.length / q := Nat.div_pos hql hq0
  have hd1 : l.length / q ≤ l.length := Nat.div_le_self _ _
  have hc4 : l.length ≤ 4000 := by
    rcases Nat.lt_or_ge 4000 l.length with h | h
    · rw [chk, if_pos h] at c2'; cases c2'
    · exact h
  have hw := wind_1 w (n + 2) t (kindS s) (l.take q) (l.length / q) (by omega) (by omega) (by omega) hd0
  rw [hlq] at hw
  have he : windP (l.take q) t (l.length / q) = windR (l.take q) t l.length := by rw [wind_eq _ _ (by omega), hlq, hdm]
  rw [he] at hw
  have hs1 : s ≠ 1 ∨ l.length ≠ 0 := .inr c4a
  have e : conesF l q t = if windR (l.take q) t l.length = l then (l.take q, 0) else ([], 6) := by unfold conesF; rw [if_neg c2, if_neg c3, Int.toNat_natCast, if_neg c4]
  rw [e]
  repeat' (first | (simp (disch := first | omega | assumption | (refine @id ((_ : Bool) = _) ?_; exact id (by with_unfolding_all rfl)) | (exact Or.inl rfl) | (exact Or.inl trivial) | (exact okL_map _ (fun _ => rfl) _) | (simp only [List.length_map, List.length_set, List.length_replicate, List.length_cons, List.length_nil, List.length_append] <;> omega) | fail) only [VV0, VV1, VV2, VV3, VV4, VV5, VV6, VV7, mkFnV, vargs, slotsL, opdsA, not_true_eq_false, not_false_eq_true, decide_true, decide_false, Option.map_some, Option.bind_some, List.cons_append, List.nil_append, List.map_cons, List.map_nil, List.append_nil, Option.toList_some, Option.toList_none, Nat.reduceEqDiff, Nat.reduceLT, Nat.reduceAdd, Nat.reduceBEq, Int.reduceAdd, Int.reduceSub, Int.reduceLT, Int.reduceLE, Int.reduceEq, Int.reduceNeg, ↓reduceIte, if_true, if_false, Bool.false_eq_true, Bool.not_true, Bool.not_false, List.length_cons, List.length_nil, List.length_singleton, reduceCtorEq, Int.toNat_natCast, Nat.zero_add, Nat.add_zero, Nat.mul_one, Int.add_sub_cancel, eq_self, List.drop_zero, List.drop_succ_cons, Option.some.injEq, Prod.mk.injEq, Bool.and_true, Bool.true_and, Bool.and_self, true_or, List.set_cons_zero, List.set_cons_succ, scL, scD, expand, List.replicate, c7]) | (refine gC_drawW ?_) | (refine gI_dec (fun _ => ?_) (fun _ => ?_)) | (refine gG_dec (fun _ => ?_) (fun _ => ?_)) | (refine gPG_dec (fun _ => ?_) (fun _ => ?_)) | (refine gI_var (fun _ => ?_) (fun _ => ?_)) | (refine gG_var (fun _ => ?_) (fun _ => ?_)) | (refine gPG_var (fun _ => ?_) (fun _ => ?_)))
  refine callV_flat (hck _) ?_
  repeat' (first | (simp (disch := first | omega | assumption | (refine @id ((_ : Bool) = _) ?_; exact id (by with_unfolding_all rfl)) | (exact Or.inl rfl) | (exact Or.inl trivial) | (exact okL_map _ (fun _ => rfl) _) | (simp only [List.length_map, List.length_set, List.length_replicate, List.length_cons, List.length_nil, List.length_append] <;> omega) | fail) only [VV0, VV1, VV2, VV3, VV4, VV5, VV6, VV7, mkFnV, vargs, slotsL, opdsA, not_true_eq_false, not_false_eq_true, decide_true, decide_false, Option.map_some, Option.bind_some, List.cons_append, List.nil_append, List.map_cons, List.map_nil, List.append_nil, Option.toList_some, Option.toList_none, Nat.reduceEqDiff, Nat.reduceLT, Nat.reduceAdd, Nat.reduceBEq, Int.reduceAdd, Int.reduceSub, Int.reduceLT, Int.reduceLE, Int.reduceEq, Int.reduceNeg, ↓reduceIte, if_true, if_false, Bool.false_eq_true, Bool.not_true, Bool.not_false, List.length_cons, List.length_nil, List.length_singleton, reduceCtorEq, Int.toNat_natCast, Nat.zero_add, Nat.add_zero, Nat.mul_one, Int.add_sub_cancel, eq_self, List.drop_zero, List.drop_succ_cons, Option.some.injEq, Prod.mk.injEq, Bool.and_true, Bool.true_and, Bool.and_self, true_or, List.set_cons_zero, List.set_cons_succ, scL, scD, expand, List.replicate, hm, hd, c4b, Nat.sub_zero]) | (refine gC_drawW ?_) | (refine gI_dec (fun _ => ?_) (fun _ => ?_)) | (refine gG_dec (fun _ => ?_) (fun _ => ?_)) | (refine gPG_dec (fun _ => ?_) (fun _ => ?_)) | (refine gI_var (fun _ => ?_) (fun _ => ?_)) | (refine gG_var (fun _ => ?_) (fun _ => ?_)) | (refine gPG_var (fun _ => ?_) (fun _ => ?_)))
  refine call0_of ((fun st => (of_p w (n + 4) t).of hC rfl st rfl) _) ?_
  repeat' (first | (simp (disch := first | omega | assumption | (refine @id ((_ : Bool) = _) ?_; exact id (by with_unfolding_all rfl)) | (exact Or.inl rfl) | (exact Or.inl trivial) | (exact okL_map _ (fun _ => rfl) _) | (simp only [List.length_map, List.length_set, List.length_replicate, List.length_cons, List.length_nil, List.length_append] <;> omega) | fail) only [VV0, VV1, VV2, VV3, VV4, VV5, VV6, VV7, mkFnV, vargs, slotsL, opdsA, not_true_eq_false, not_false_eq_true, decide_true, decide_false, Option.map_some, Option.bind_some, List.cons_append, List.nil_append, List.map_cons, List.map_nil, List.append_nil, Option.toList_some, Option.toList_none, Nat.reduceEqDiff, Nat.reduceLT, Nat.reduceAdd, Nat.reduceBEq, Int.reduceAdd, Int.reduceSub, Int.reduceLT, Int.reduceLE, Int.reduceEq, Int.reduceNeg, ↓reduceIte, if_true, if_false, Bool.false_eq_true, Bool.not_true, Bool.not_false, List.length_cons, List.length_nil, List.length_singleton, reduceCtorEq, Int.toNat_natCast, Nat.zero_add, Nat.add_zero, Nat.mul_one, Int.add_sub_cancel, eq_self, List.drop_zero, List.drop_succ_cons, Option.some.injEq, Prod.mk.injEq, Bool.and_true, Bool.true_and, Bool.and_self, true_or, List.set_cons_zero, List.set_cons_succ, scL, scD, expand, List.replicate, hm, hd, c4b, Nat.sub_zero]) | (refine gC_drawW ?_) | (refine gI_dec (fun _ => ?_) (fun _ => ?_)) | (refine gG_dec (fun _ => ?_) (fun _ => ?_)) | (refine gPG_dec (fun _ => ?_) (fun _ => ?_)) | (refine gI_var (fun _ => ?_) (fun _ => ?_)) | (refine gG_var (fun _ => ?_) (fun _ => ?_)) | (refine gPG_var (fun _ => ?_) (fun _ => ?_)))
  refine call1_of (by rw [hC]; exact hw) ?_
  repeat' (first | (simp (disch := first | omega | assumption | (refine @id ((_ : Bool) = _) ?_; exact id (by with_unfolding_all rfl)) | (exact Or.inl rfl) | (exact Or.inl trivial) | (exact okL_map _ (fun _ => rfl) _) | (simp only [List.length_map, List.length_set, List.length_replicate, List.length_cons, List.length_nil, List.length_append] <;> omega) | fail) only [VV0, VV1, VV2, VV3, VV4, VV5, VV6, VV7, mkFnV, vargs, slotsL, opdsA, not_true_eq_false, not_false_eq_true, decide_true, decide_false, Option.map_some, Option.bind_some, List.cons_append, List.nil_append, List.map_cons, List.map_nil, List.append_nil, Option.toList_some, Option.toList_none, Nat.reduceEqDiff, Nat.reduceLT, Nat.reduceAdd, Nat.reduceBEq, Int.reduceAdd, Int.reduceSub, Int.reduceLT, Int.reduceLE, Int.reduceEq, Int.reduceNeg, ↓reduceIte, if_true, if_false, Bool.false_eq_true, Bool.not_true, Bool.not_false, List.length_cons, List.length_nil, List.length_singleton, reduceCtorEq, Int.toNat_natCast, Nat.zero_add, Nat.add_zero, Nat.mul_one, Int.add_sub_cancel, eq_self, List.drop_zero, List.drop_succ_cons, Option.some.injEq, Prod.mk.injEq, Bool.and_true, Bool.true_and, Bool.and_self, true_or, List.set_cons_zero, List.set_cons_succ, scL, scD, expand, List.replicate]) | (refine gC_drawW ?_) | (refine gI_dec (fun _ => ?_) (fun _ => ?_)) | (refine gG_dec (fun _ => ?_) (fun _ => ?_)) | (refine gPG_dec (fun _ => ?_) (fun _ => ?_)) | (refine gI_var (fun _ => ?_) (fun _ => ?_)) | (refine gG_var (fun _ => ?_) (fun _ => ?_)) | (refine gPG_var (fun _ => ?_) (fun _ => ?_)))
  refine callV_flat (by rw [hC]; exact equal_o w (n + 4) _ 0 3 s false _ l rfl (by rw [windR_len]; omega) (by omega)) ?_
  by_cases c5 : windR (l.take q) t l.length = l
  · rw [decide_eq_true c5, if_pos c5]
    repeat' (first | (simp (disch := first | omega | assumption | (refine @id ((_ : Bool) = _) ?_; exact id (by with_unfolding_all rfl)) | (exact Or.inl rfl) | (exact Or.inl trivial) | (exact okL_map _ (fun _ => rfl) _) | (simp only [List.length_map, List.length_set, List.length_replicate, List.length_cons, List.length_nil, List.length_append] <;> omega) | fail) only [VV0, VV1, VV2, VV3, VV4, VV5, VV6, VV7, mkFnV, vargs, slotsL, opdsA, not_true_eq_false, not_false_eq_true, decide_true, decide_false, Option.map_some, Option.bind_some, List.cons_append, List.nil_append, List.map_cons, List.map_nil, List.append_nil, Option.toList_some, Option.toList_none, Nat.reduceEqDiff, Nat.reduceLT, Nat.reduceAdd, Nat.reduceBEq, Int.reduceAdd, Int.reduceSub, Int.reduceLT, Int.reduceLE, Int.reduceEq, Int.reduceNeg, ↓reduceIte, if_true, if_false, Bool.false_eq_true, Bool.not_true, Bool.not_false, List.length_cons, List.length_nil, List.length_singleton, reduceCtorEq, Int.toNat_natCast, Nat.zero_add, Nat.add_zero, Nat.mul_one, Int.add_sub_cancel, eq_self, List.drop_zero, List.drop_succ_cons, Option.some.injEq, Prod.mk.injEq, Bool.and_true, Bool.true_and, Bool.and_self, true_or, List.set_cons_zero, List.set_cons_succ, scL, scD, expand, List.replicate, Nat.sub_zero]) | (refine gC_drawW ?_) | (refine gI_dec (fun _ => ?_) (fun _ => ?_)) | (refine gG_dec (fun _ => ?_) (fun _ => ?_)) | (refine gPG_dec (fun _ => ?_) (fun _ => ?_)) | (refine gI_var (fun _ => ?_) (fun _ => ?_)) | (refine gG_var (fun _ => ?_) (fun _ => ?_)) | (refine gPG_var (fun _ => ?_) (fun _ => ?_)))
    have hcl := clone_p w (n + 4) (kindS s) (l.take q) (by omega) (by omega)
    rw [hlq] at hcl
    refine callV_of (by rw [hC]; exact hcl) rfl rfl rfl ?_
    repeat' (first | (simp (disch := first | omega | assumption | (refine @id ((_ : Bool) = _) ?_; exact id (by with_unfolding_all rfl)) | (exact Or.inl rfl) | (exact Or.inl trivial) | (exact okL_map _ (fun _ => rfl) _) | (simp only [List.length_map, List.length_set, List.length_replicate, List.length_cons, List.length_nil, List.length_append] <;> omega) | fail) only [VV0, VV1, VV2, VV3, VV4, VV5, VV6, VV7, mkFnV, vargs, slotsL, opdsA, not_true_eq_false, not_false_eq_true, decide_true, decide_false, Option.map_some, Option.bind_some, List.cons_append, List.nil_append, List.map_cons, List.map_nil, List.append_nil, Option.toList_some, Option.toList_none, Nat.reduceEqDiff, Nat.reduceLT, Nat.reduceAdd, Nat.reduceBEq, Int.reduceAdd, Int.reduceSub, Int.reduceLT, Int.reduceLE, Int.reduceEq, Int.reduceNeg, ↓reduceIte, if_true, if_false, Bool.false_eq_true, Bool.not_true, Bool.not_false, List.length_cons, List.length_nil, List.length_singleton, reduceCtorEq, Int.toNat_natCast, Nat.zero_add, Nat.add_zero, Nat.mul_one, Int.add_sub_cancel, eq_self, List.drop_zero, List.drop_succ_cons, Option.some.injEq, Prod.mk.injEq, Bool.and_true, Bool.true_and, Bool.and_self, true_or, List.set_cons_zero, List.set_cons_succ, scL, scD, expand, List.replicate, vsh, shH, shO, fzSL, fzS]) | (refine gC_drawW ?_) | (refine gI_dec (fun _ => ?_) (fun _ => ?_)) | (refine gG_dec (fun _ => ?_) (fun _ => ?_)) | (refine gPG_dec (fun _ => ?_) (fun _ => ?_)) | (refine gI_var (fun _ => ?_) (fun _ => ?_)) | (refine gG_var (fun _ => ?_) (fun _ => ?_)) | (refine gPG_var (fun _ => ?_) (fun _ => ?_)))
    simp only [resV, resS, hlq]
    exact weak_to [(1, 0)] 1 h0 rfl rfl rfl rfl
  · rw [decide_eq_false c5, if_neg c5]
    repeat' (first | (simp (disch := first | omega | assumption | (refine @id ((_ : Bool) = _) ?_; exact id (by with_unfolding_all rfl)) | (exact Or.inl rfl) | (exact Or.inl trivial) | (exact okL_map _ (fun _ => rfl) _) | (simp only [List.length_map, List.length_set, List.length_replicate, List.length_cons, List.length_nil, List.length_append] <;> omega) | fail) only [VV0, VV1, VV2, VV3, VV4, VV5, VV6, VV7, mkFnV, vargs, slotsL, opdsA, not_true_eq_false, not_false_eq_true, decide_true, decide_false, Option.map_some, Option.bind_some, List.cons_append, List.nil_append, List.map_cons, List.map_nil, List.append_nil, Option.toList_some, Option.toList_none, Nat.reduceEqDiff, Nat.reduceLT, Nat.reduceAdd, Nat.reduceBEq, Int.reduceAdd, Int.reduceSub, Int.reduceLT, Int.reduceLE, Int.reduceEq, Int.reduceNeg, ↓reduceIte, if_true, if_false, Bool.false_eq_true, Bool.not_true, Bool.not_false, List.length_cons, List.length_nil, List.length_singleton, reduceCtorEq, Int.toNat_natCast, Nat.zero_add, Nat.add_zero, Nat.mul_one, Int.add_sub_cancel, eq_self, List.drop_zero, List.drop_succ_cons, Option.some.injEq, Prod.mk.injEq, Bool.and_true, Bool.true_and, Bool.and_self, true_or, List.set_cons_zero, List.set_cons_succ, scL, scD, expand, List.replicate]) | (refine gC_drawW ?_) | (refine gI_dec (fun _ => ?_) (fun _ => ?_)) | (refine gG_dec (fun _ => ?_) (fun _ => ?_)) | (refine gPG_dec (fun _ => ?_) (fun _ => ?_)) | (refine gI_var (fun _ => ?_) (fun _ => ?_)) | (refine gG_var (fun _ => ?_) (fun _ => ?_)) | (refine gPG_var (fun _ => ?_) (fun _ => ?_)))
    exact weak_tupNil 3 1 rfl h0 rfl
end
end Go.Proofs.Ytgglaaldlegckaa
namespace Go.Proofs.Ytgglaaldlegckaa
open Go Go.Itp
set_option maxRecDepth 100000
set_option maxHeartbeats 1000000
set_option linter.unusedSimpArgs false
def okF (l : List Int) (t : Bool) (i : Nat) : Bool := decide ((conesF l ((i : Int) + 1) t).2 = 0)
def fewestF (l : List Int) (t : Bool) : List Int × Int :=
  if chk l ≠ 0 then ([], chk l) else match (List.range 64).find? (okF l t) with
    | some i => ((conesF l ((i : Int) + 1) t).1, 0)
    | none => ([], 6)
theorem fewest_at {l : List Int} {t : Bool} {k : Nat} (h0 : chk l = 0) (hk : k < 64) (ha : ∀ i, i < k → okF l t i = false) (hb : okF l t k = true) : fewestF l t = ((conesF l ((k : Int) + 1) t).1, 0) := by
  have : (List.range 64).find? (okF l t) = some k := by
    rw [List.find?_range_eq_some]
    exact ⟨hb, List.mem_range.2 hk, fun j hj => by simp [ha j hj]⟩
  unfold fewestF
  rw [if_neg (by omega), this]
theorem fewest_none {l : List Int} {t : Bool} (h0 : chk l = 0) (ha : ∀ i, i < 64 → okF l t i = false) : fewestF l t = ([], 6) := by
  have : (List.range 64).find? (okF l t) = none := by
    rw [List.find?_eq_none]
    intro x hx
    rw [ha x (List.mem_range.1 hx)]
    simp
  unfold fewestF
  rw [if_neg (by omega), this]
theorem ok_far {l : List Int} {t : Bool} {i : Nat} (h0 : chk l = 0) (h : l.length ≤ i) (hi : i < 64) : okF l t i = false := by
  unfold okF
  rw [decide_eq_false_iff_not]
  unfold conesF
  rw [if_neg (by omega), if_neg (by omega), if_pos]
  · decide
  · rw [show ((i : Int) + 1).toNat = i + 1 by omega, Nat.mod_eq_of_lt (by omega)]
    omega
section
variable (w : World) (n : Nat)
theorem rcones_p (s : Nat) (l : List Int) (p : Int) (t : Bool) (hl : l.length ≤ 5000) : VSpec (EN w (n + 2)) 8 [.sl s l.length (l.map iD), .sc (.int .i64 p), .sc (.bool t)] (resV (conesF l p t)) (resS (conesF l p t)) := by
  refine vspec_g rfl rfl (fun _ _ => rfl) (Nat.le_of_ble_eq_true rfl) (oldVals w) (retOK_tgr (map_nil_iff rfl)) rfl fun C hC h0 => ?_
  have hck := fun st => (rcheck_p w n s l (by omega)).of hC rfl st rfl
  by_cases c2 : chk l ≠ 0
  · have e : conesF l p t = ([], chk l) := if_pos c2
    rw [e]
    generalize chk l = x at c2 hck
    repeat' (first | (simp (disch := first | omega | assumption | (refine @id ((_ : Bool) = _) ?_; exact id (by with_unfolding_all rfl)) | (exact Or.inl rfl) | (exact Or.inl trivial) | (exact okL_map _ (fun _ => rfl) _) | (simp only [List.length_map, List.length_set, List.length_replicate, List.length_cons, List.length_nil, List.length_append] <;> omega) | fail) only [VV0, VV1, VV2, VV3, VV4, VV5, VV6, VV7, mkFnV, vargs, slotsL, opdsA, not_true_eq_false, not_false_eq_true, decide_true, decide_false, Option.map_some, Option.bind_some, List.cons_append, List.nil_append, List.map_cons, List.map_nil, List.append_nil, Option.toList_some, Option.toList_none, Nat.reduceEqDiff, Nat.reduceLT, Nat.reduceAdd, Nat.reduceBEq, Int.reduceAdd, Int.reduceSub, Int.reduceLT, Int.reduceLE, Int.reduceEq, Int.reduceNeg, ↓reduceIte, if_true, if_false, Bool.false_eq_true, Bool.not_true, Bool.not_false, List.length_cons, List.length_nil, List.length_singleton, reduceCtorEq, Int.toNat_natCast, Nat.zero_add, Nat.add_zero, Nat.mul_one, Int.add_sub_cancel, eq_self, List.drop_zero, List.drop_succ_cons, Option.some.injEq, Prod.mk.injEq, Bool.and_true, Bool.true_and, Bool.and_self, true_or, List.set_cons_zero, List.set_cons_succ, scL, scD, expand, List.replicate, c8]) | (refine gC_drawW ?_) | (refine gI_dec (fun _ => ?_) (fun _ => ?_)) | (refine gG_dec (fun _ => ?_) (fun _ => ?_)) | (refine gPG_dec (fun _ => ?_) (fun _ => ?_)) | (refine gI_var (fun _ => ?_) (fun _ => ?_)) | (refine gG_var (fun _ => ?_) (fun _ => ?_)) | (refine gPG_var (fun _ => ?_) (fun _ => ?_)))
    refine callV_flat (hck _) ?_
    repeat' (first | (simp (disch := first | omega | assumption | (refine @id ((_ : Bool) = _) ?_; exact id (by with_unfolding_all rfl)) | (exact Or.inl rfl) | (exact Or.inl trivial) | (exact okL_map _ (fun _ => rfl) _) | (simp only [List.length_map, List.length_set, List.length_replicate, List.length_cons, List.length_nil, List.length_append] <;> omega) | fail) only [VV0, VV1, VV2, VV3, VV4, VV5, VV6, VV7, mkFnV, vargs, slotsL, opdsA, not_true_eq_false, not_false_eq_true, decide_true, decide_false, Option.map_some, Option.bind_some, List.cons_append, List.nil_append, List.map_cons, List.map_nil, List.append_nil, Option.toList_some, Option.toList_none, Nat.reduceEqDiff, Nat.reduceLT, Nat.reduceAdd, Nat.reduceBEq, Int.reduceAdd, Int.reduceSub, Int.reduceLT, Int.reduceLE, Int.reduceEq, Int.reduceNeg, ↓reduceIte, if_true, if_false, Bool.false_eq_true, Bool.not_true, Bool.not_false, List.length_cons, List.length_nil, List.length_singleton, reduceCtorEq, Int.toNat_natCast, Nat.zero_add, Nat.add_zero, Nat.mul_one, Int.add_sub_cancel, eq_self, List.drop_zero, List.drop_succ_cons, Option.some.injEq, Prod.mk.injEq, Bool.and_true, Bool.true_and, Bool.and_self, true_or, List.set_cons_zero, List.set_cons_succ, scL, scD, expand, List.replicate]) | (refine gC_drawW ?_) | (refine gI_dec (fun _ => ?_) (fun _ => ?_)) | (refine gG_dec (fun _ => ?_) (fun _ => ?_)) | (refine gPG_dec (fun _ => ?_) (fun _ => ?_)) | (refine gI_var (fun _ => ?_) (fun _ => ?_)) | (refine gG_var (fun _ => ?_) (fun _ => ?_)) | (refine gPG_var (fun _ => ?_) (fun _ => ?_)))
    all_goals try contradiction
    refine callV_flat (hck _) ?_
    repeat' (first | (simp (disch := first | omega | assumption | (refine @id ((_ : Bool) = _) ?_; exact id (by with_unfolding_all rfl)) | (exact Or.inl rfl) | (exact Or.inl trivial) | (exact okL_map _ (fun _ => rfl) _) | (simp only [List.length_map, List.length_set, List.length_replicate, List.length_cons, List.length_nil, List.length_append] <;> omega) | fail) only [VV0, VV1, VV2, VV3, VV4, VV5, VV6, VV7, mkFnV, vargs, slotsL, opdsA, not_true_eq_false, not_false_eq_true, decide_true, decide_false, Option.map_some, Option.bind_some, List.cons_append, List.nil_append, List.map_cons, List.map_nil, List.append_nil, Option.toList_some, Option.toList_none, Nat.reduceEqDiff, Nat.reduceLT, Nat.reduceAdd, Nat.reduceBEq, Int.reduceAdd, Int.reduceSub, Int.reduceLT, Int.reduceLE, Int.reduceEq, Int.reduceNeg, ↓reduceIte, if_true, if_false, Bool.false_eq_true, Bool.not_true, Bool.not_false, List.length_cons, List.length_nil, List.length_singleton, reduceCtorEq, Int.toNat_natCast, Nat.zero_add, Nat.add_zero, Nat.mul_one, Int.add_sub_cancel, eq_self, List.drop_zero, List.drop_succ_cons, Option.some.injEq, Prod.mk.injEq, Bool.and_true, Bool.true_and, Bool.and_self, true_or, List.set_cons_zero, List.set_cons_succ, scL, scD, expand, List.replicate]) | (refine gC_drawW ?_) | (refine gI_dec (fun _ => ?_) (fun _ => ?_)) | (refine gG_dec (fun _ => ?_) (fun _ => ?_)) | (refine gPG_dec (fun _ => ?_) (fun _ => ?_)) | (refine gI_var (fun _ => ?_) (fun _ => ?_)) | (refine gG_var (fun _ => ?_) (fun _ => ?_)) | (refine gPG_var (fun _ => ?_) (fun _ => ?_)))
    exact weak_tupNil 3 1 rfl h0 rfl
  have c2' : chk l = 0 := Classical.not_not.1 c2
  rw [c2'] at hck
  by_cases c3 : p < 1 ∨ 64 < p
  · have e : conesF l p t = ([], 2) := by unfold conesF; rw [if_neg c2, if_pos c3]
    rw [e]
    rcases c3 with c3 | c3
    all_goals
      repeat' (first | (simp (disch := first | omega | assumption | (refine @id ((_ : Bool) = _) ?_; exact id (by with_unfolding_all rfl)) | (exact Or.inl rfl) | (exact Or.inl trivial) | (exact okL_map _ (fun _ => rfl) _) | (simp only [List.length_map, List.length_set, List.length_replicate, List.length_cons, List.length_nil, List.length_append] <;> omega) | fail) only [VV0, VV1, VV2, VV3, VV4, VV5, VV6, VV7, mkFnV, vargs, slotsL, opdsA, not_true_eq_false, not_false_eq_true, decide_true, decide_false, Option.map_some, Option.bind_some, List.cons_append, List.nil_append, List.map_cons, List.map_nil, List.append_nil, Option.toList_some, Option.toList_none, Nat.reduceEqDiff, Nat.reduceLT, Nat.reduceAdd, Nat.reduceBEq, Int.reduceAdd, Int.reduceSub, Int.reduceLT, Int.reduceLE, Int.reduceEq, Int.reduceNeg, ↓reduceIte, if_true, if_false, Bool.false_eq_true, Bool.not_true, Bool.not_false, List.length_cons, List.length_nil, List.length_singleton, reduceCtorEq, Int.toNat_natCast, Nat.zero_add, Nat.add_zero, Nat.mul_one, Int.add_sub_cancel, eq_self, List.drop_zero, List.drop_succ_cons, Option.some.injEq, Prod.mk.injEq, Bool.and_true, Bool.true_and, Bool.and_self, true_or, List.set_cons_zero, List.set_cons_succ, scL, scD, expand, List.replicate, c8]) | (refine gC_drawW ?_) | (refine gI_dec (fun _ => ?_) (fun _ => ?_)) | (refine gG_dec (fun _ => ?_) (fun _ => ?_)) | (refine gPG_dec (fun _ => ?_) (fun _ => ?_)) | (refine gI_var (fun _ => ?_) (fun _ => ?_)) | (refine gG_var (fun _ => ?_) (fun _ => ?_)) | (refine gPG_var (fun _ => ?_) (fun _ => ?_)))
      refine callV_flat (hck _) ?_
      repeat' (first | (simp (disch := first | omega | assumption | (refine @id ((_ : Bool) = _) ?_; exact id (by with_unfolding_all rfl)) | (exact Or.inl rfl) | (exact Or.inl trivial) | (exact okL_map _ (fun _ => rfl) _) | (simp only [List.length_map, List.length_set, List.length_replicate, List.length_cons, List.length_nil, List.length_append] <;> omega) | fail) only [VV0, VV1, VV2, VV3, VV4, VV5, VV6, VV7, mkFnV, vargs, slotsL, opdsA, not_true_eq_false, not_false_eq_true, decide_true, decide_false, Option.map_some, Option.bind_some, List.cons_append, List.nil_append, List.map_cons, List.map_nil, List.append_nil, Option.toList_some, Option.toList_none, Nat.reduceEqDiff, Nat.reduceLT, Nat.reduceAdd, Nat.reduceBEq, Int.reduceAdd, Int.reduceSub, Int.reduceLT, Int.reduceLE, Int.reduceEq, Int.reduceNeg, ↓reduceIte, if_true, if_false, Bool.false_eq_true, Bool.not_true, Bool.not_false, List.length_cons, List.length_nil, List.length_singleton, reduceCtorEq, Int.toNat_natCast, Nat.zero_add, Nat.add_zero, Nat.mul_one, Int.add_sub_cancel, eq_self, List.drop_zero, List.drop_succ_cons, Option.some.injEq, Prod.mk.injEq, Bool.and_true, Bool.true_and, Bool.and_self, true_or, List.set_cons_zero, List.set_cons_succ, scL, scD, expand, List.replicate]) | (refine gC_drawW ?_) | (refine gI_dec (fun _ => ?_) (fun _ => ?_)) | (refine gG_dec (fun _ => ?_) (fun _ => ?_)) | (refine gPG_dec (fun _ => ?_) (fun _ => ?_)) | (refine gI_var (fun _ => ?_) (fun _ => ?_)) | (refine gG_var (fun _ => ?_) (fun _ => ?_)) | (refine gPG_var (fun _ => ?_) (fun _ => ?_)))
      all_goals first | exact weak_tupNil 3 1 rfl h0 rfl | exact absurd trivial ‹¬True›
  obtain ⟨q, rfl⟩ : ∃ q : Nat, p = q := ⟨p.toNat, by omega⟩
  have hm : (l.length : Int) % (q : Int) = ((l.length % q : Nat) : Int) := by simp
  by_cases c4 : l.length = 0 ∨ l.length % q ≠ 0
  · have e : conesF l q t = ([], 26) := by unfold conesF; rw [if_neg c2, if_neg c3, if_pos (by simpa using c4)]
    rw [e]
    rcases c4 with c4 | c4
    · repeat' (first | (simp (disch := first | omega | assumption | (refine @id ((_ : Bool) = _) ?_; exact id (by with_unfolding_all rfl)) | (exact Or.inl rfl) | (exact Or.inl trivial) | (exact okL_map _ (fun _ => rfl) _) | (simp only [List.length_map, List.length_set, List.length_replicate, List.length_cons, List.length_nil, List.length_append] <;> omega) | fail) only [VV0, VV1, VV2, VV3, VV4, VV5, VV6, VV7, mkFnV, vargs, slotsL, opdsA, not_true_eq_false, not_false_eq_true, decide_true, decide_false, Option.map_some, Option.bind_some, List.cons_append, List.nil_append, List.map_cons, List.map_nil, List.append_nil, Option.toList_some, Option.toList_none, Nat.reduceEqDiff, Nat.reduceLT, Nat.reduceAdd, Nat.reduceBEq, Int.reduceAdd, Int.reduceSub, Int.reduceLT, Int.reduceLE, Int.reduceEq, Int.reduceNeg, ↓reduceIte, if_true, if_false, Bool.false_eq_true, Bool.not_true, Bool.not_false, List.length_cons, List.length_nil, List.length_singleton, reduceCtorEq, Int.toNat_natCast, Nat.zero_add, Nat.add_zero, Nat.mul_one, Int.add_sub_cancel, eq_self, List.drop_zero, List.drop_succ_cons, Option.some.injEq, Prod.mk.injEq, Bool.and_true, Bool.true_and, Bool.and_self, true_or, List.set_cons_zero, List.set_cons_succ, scL, scD, expand, List.replicate, c8, c4]) | (refine gC_drawW ?_) | (refine gI_dec (fun _ => ?_) (fun _ => ?_)) | (refine gG_dec (fun _ => ?_) (fun _ => ?_)) | (refine gPG_dec (fun _ => ?_) (fun _ => ?_)) | (refine gI_var (fun _ => ?_) (fun _ => ?_)) | (refine gG_var (fun _ => ?_) (fun _ => ?_)) | (refine gPG_var (fun _ => ?_) (fun _ => ?_)))
      refine callV_flat (by have := hck ⟨[], 0, 0⟩; rw [c4] at this; exact this) ?_
      repeat' (first | (simp (disch := first | omega | assumption | (refine @id ((_ : Bool) = _) ?_; exact id (by with_unfolding_all rfl)) | (exact Or.inl rfl) | (exact Or.inl trivial) | (exact okL_map _ (fun _ => rfl) _) | (simp only [List.length_map, List.length_set, List.length_replicate, List.length_cons, List.length_nil, List.length_append] <;> omega) | fail) only [VV0, VV1, VV2, VV3, VV4, VV5, VV6, VV7, mkFnV, vargs, slotsL, opdsA, not_true_eq_false, not_false_eq_true, decide_true, decide_false, Option.map_some, Option.bind_some, List.cons_append, List.nil_append, List.map_cons, List.map_nil, List.append_nil, Option.toList_some, Option.toList_none, Nat.reduceEqDiff, Nat.reduceLT, Nat.reduceAdd, Nat.reduceBEq, Int.reduceAdd, Int.reduceSub, Int.reduceLT, Int.reduceLE, Int.reduceEq, Int.reduceNeg, ↓reduceIte, if_true, if_false, Bool.false_eq_true, Bool.not_true, Bool.not_false, List.length_cons, List.length_nil, List.length_singleton, reduceCtorEq, Int.toNat_natCast, Nat.zero_add, Nat.add_zero, Nat.mul_one, Int.add_sub_cancel, eq_self, List.drop_zero, List.drop_succ_cons, Option.some.injEq, Prod.mk.injEq, Bool.and_true, Bool.true_and, Bool.and_self, true_or, List.set_cons_zero, List.set_cons_succ, scL, scD, expand, List.replicate]) | (refine gC_drawW ?_) | (refine gI_dec (fun _ => ?_) (fun _ => ?_)) | (refine gG_dec (fun _ => ?_) (fun _ => ?_)) | (refine gPG_dec (fun _ => ?_) (fun _ => ?_)) | (refine gI_var (fun _ => ?_) (fun _ => ?_)) | (refine gG_var (fun _ => ?_) (fun _ => ?_)) | (refine gPG_var (fun _ => ?_) (fun _ => ?_)))
      all_goals first | exact weak_tupNil 3 1 rfl h0 rfl | exact absurd trivial ‹¬True›
    · repeat' (first | (simp (disch := first | omega | assumption | (refine @id ((_ : Bool) = _) ?_; exact id (by with_unfolding_all rfl)) | (exact Or.inl rfl) | (exact Or.inl trivial) | (exact okL_map _ (fun _ => rfl) _) | (simp only [List.length_map, List.length_set, List.length_replicate, List.length_cons, List.length_nil, List.length_append] <;> omega) | fail) only [VV0, VV1, VV2, VV3, VV4, VV5, VV6, VV7, mkFnV, vargs, slotsL, opdsA, not_true_eq_false, not_false_eq_true, decide_true, decide_false, Option.map_some, Option.bind_some, List.cons_append, List.nil_append, List.map_cons, List.map_nil, List.append_nil, Option.toList_some, Option.toList_none, Nat.reduceEqDiff, Nat.reduceLT, Nat.reduceAdd, Nat.reduceBEq, Int.reduceAdd, Int.reduceSub, Int.reduceLT, Int.reduceLE, Int.reduceEq, Int.reduceNeg, ↓reduceIte, if_true, if_false, Bool.false_eq_true, Bool.not_true, Bool.not_false, List.length_cons, List.length_nil, List.length_singleton, reduceCtorEq, Int.toNat_natCast, Nat.zero_add, Nat.add_zero, Nat.mul_one, Int.add_sub_cancel, eq_self, List.drop_zero, List.drop_succ_cons, Option.some.injEq, Prod.mk.injEq, Bool.and_true, Bool.true_and, Bool.and_self, true_or, List.set_cons_zero, List.set_cons_succ, scL, scD, expand, List.replicate, c8]) | (refine gC_drawW ?_) | (refine gI_dec (fun _ => ?_) (fun _ => ?_)) | (refine gG_dec (fun _ => ?_) (fun _ => ?_)) | (refine gPG_dec (fun _ => ?_) (fun _ => ?_)) | (refine gI_var (fun _ => ?_) (fun _ => ?_)) | (refine gG_var (fun _ => ?_) (fun _ => ?_)) | (refine gPG_var (fun _ => ?_) (fun _ => ?_)))
      refine callV_flat (hck _) ?_
      repeat' (first | (simp (disch := first | omega | assumption | (refine @id ((_ : Bool) = _) ?_; exact id (by with_unfolding_all rfl)) | (exact Or.inl rfl) | (exact Or.inl trivial) | (exact okL_map _ (fun _ => rfl) _) | (simp only [List.length_map, List.length_set, List.length_replicate, List.length_cons, List.length_nil, List.length_append] <;> omega) | fail) only [VV0, VV1, VV2, VV3, VV4, VV5, VV6, VV7, mkFnV, vargs, slotsL, opdsA, not_true_eq_false, not_false_eq_true, decide_true, decide_false, Option.map_some, Option.bind_some, List.cons_append, List.nil_append, List.map_cons, List.map_nil, List.append_nil, Option.toList_some, Option.toList_none, Nat.reduceEqDiff, Nat.reduceLT, Nat.reduceAdd, Nat.reduceBEq, Int.reduceAdd, Int.reduceSub, Int.reduceLT, Int.reduceLE, Int.reduceEq, Int.reduceNeg, ↓reduceIte, if_true, if_false, Bool.false_eq_true, Bool.not_true, Bool.not_false, List.length_cons, List.length_nil, List.length_singleton, reduceCtorEq, Int.toNat_natCast, Nat.zero_add, Nat.add_zero, Nat.mul_one, Int.add_sub_cancel, eq_self, List.drop_zero, List.drop_succ_cons, Option.some.injEq, Prod.mk.injEq, Bool.and_true, Bool.true_and, Bool.and_self, true_or, List.set_cons_zero, List.set_cons_succ, scL, scD, expand, List.replicate, hm]) | (refine gC_drawW ?_) | (refine gI_dec (fun _ => ?_) (fun _ => ?_)) | (refine gG_dec (fun _ => ?_) (fun _ => ?_)) | (refine gPG_dec (fun _ => ?_) (fun _ => ?_)) | (refine gI_var (fun _ => ?_) (fun _ => ?_)) | (refine gG_var (fun _ => ?_) (fun _ => ?_)) | (refine gPG_var (fun _ => ?_) (fun _ => ?_)))
      all_goals first | exact weak_tupNil 3 1 rfl h0 rfl | exact absurd trivial ‹¬True› | (exfalso; omega)
  have c4a : l.length ≠ 0 := fun h => c4 (.inl h)
  have c4b : l.length % q = 0 := Classical.not_not.1 fun h => c4 (.inr h)
  have hq0 : 0 < q := by omega
  have hql : q ≤ l.length := Nat.le_of_dvd (by omega) (Nat.dvd_of_mod_eq_zero c4b)
  have hlq : (l.take q).length = q := by rw [List.length_take]; omega
  have hs1 : s ≠ 1 ∨ l.length ≠ 0 := .inr c4a
  have e : conesF l q t = if windR (l.take q) t l.length = l then (l.take q, 0) else ([], 6) := by unfold conesF; rw [if_neg c2, if_neg c3, Int.toNat_natCast, if_neg c4]
  rw [e]
  repeat' (first | (simp (disch := first | omega | assumption | (refine @id ((_ : Bool) = _) ?_; exact id (by with_unfolding_all rfl)) | (exact Or.inl rfl) | (exact Or.inl trivial) | (exact okL_map _ (fun _ => rfl) _) | (simp only [List.length_map, List.length_set, List.length_replicate, List.length_cons, List.length_nil, List.length_append] <;> omega) | fail) only [VV0, VV1, VV2, VV3, VV4, VV5, VV6, VV7, mkFnV, vargs, slotsL, opdsA, not_true_eq_false, not_false_eq_true, decide_true, decide_false, Option.map_some, Option.bind_some, List.cons_append, List.nil_append, List.map_cons, List.map_nil, List.append_nil, Option.toList_some, Option.toList_none, Nat.reduceEqDiff, Nat.reduceLT, Nat.reduceAdd, Nat.reduceBEq, Int.reduceAdd, Int.reduceSub, Int.reduceLT, Int.reduceLE, Int.reduceEq, Int.reduceNeg, ↓reduceIte, if_true, if_false, Bool.false_eq_true, Bool.not_true, Bool.not_false, List.length_cons, List.length_nil, List.length_singleton, reduceCtorEq, Int.toNat_natCast, Nat.zero_add, Nat.add_zero, Nat.mul_one, Int.add_sub_cancel, eq_self, List.drop_zero, List.drop_succ_cons, Option.some.injEq, Prod.mk.injEq, Bool.and_true, Bool.true_and, Bool.and_self, true_or, List.set_cons_zero, List.set_cons_succ, scL, scD, expand, List.replicate, c8]) | (refine gC_drawW ?_) | (refine gI_dec (fun _ => ?_) (fun _ => ?_)) | (refine gG_dec (fun _ => ?_) (fun _ => ?_)) | (refine gPG_dec (fun _ => ?_) (fun _ => ?_)) | (refine gI_var (fun _ => ?_) (fun _ => ?_)) | (refine gG_var (fun _ => ?_) (fun _ => ?_)) | (refine gPG_var (fun _ => ?_) (fun _ => ?_)))
  refine callV_flat (hck _) ?_
  repeat' (first | (simp (disch := first | omega | assumption | (refine @id ((_ : Bool) = _) ?_; exact id (by with_unfolding_all rfl)) | (exact Or.inl rfl) | (exact Or.inl trivial) | (exact okL_map _ (fun _ => rfl) _) | (simp only [List.length_map, List.length_set, List.length_replicate, List.length_cons, List.length_nil, List.length_append] <;> omega) | fail) only [VV0, VV1, VV2, VV3, VV4, VV5, VV6, VV7, mkFnV, vargs, slotsL, opdsA, not_true_eq_false, not_false_eq_true, decide_true, decide_false, Option.map_some, Option.bind_some, List.cons_append, List.nil_append, List.map_cons, List.map_nil, List.append_nil, Option.toList_some, Option.toList_none, Nat.reduceEqDiff, Nat.reduceLT, Nat.reduceAdd, Nat.reduceBEq, Int.reduceAdd, Int.reduceSub, Int.reduceLT, Int.reduceLE, Int.reduceEq, Int.reduceNeg, ↓reduceIte, if_true, if_false, Bool.false_eq_true, Bool.not_true, Bool.not_false, List.length_cons, List.length_nil, List.length_singleton, reduceCtorEq, Int.toNat_natCast, Nat.zero_add, Nat.add_zero, Nat.mul_one, Int.add_sub_cancel, eq_self, List.drop_zero, List.drop_succ_cons, Option.some.injEq, Prod.mk.injEq, Bool.and_true, Bool.true_and, Bool.and_self, true_or, List.set_cons_zero, List.set_cons_succ, scL, scD, expand, List.replicate, hm, c4b]) | (refine gC_drawW ?_) | (refine gI_dec (fun _ => ?_) (fun _ => ?_)) | (refine gG_dec (fun _ => ?_) (fun _ => ?_)) | (refine gPG_dec (fun _ => ?_) (fun _ => ?_)) | (refine gI_var (fun _ => ?_) (fun _ => ?_)) | (refine gG_var (fun _ => ?_) (fun _ => ?_)) | (refine gPG_var (fun _ => ?_) (fun _ => ?_)))
  refine g_while (fun m fr st => ∃ k : Nat, m = l.length - k ∧ q ≤ k ∧ k ≤ l.length ∧ (∀ i, q ≤ i → i < k → l[i]! = l[cone i q t]!) ∧ fr = [(0, .sl s l.length (l.map iD)), (1, .sc (.int .i64 q)), (2, .sc (.bool t)), (8, .sc (.int .i64 k))] ∧ st = ⟨[], 0, 0⟩) (l.length - q) ?_ ⟨_, _, .refl _ _, q, ?_⟩ ?_
  · rw [hC, callP_rounds]; unfold many; omega
  · exact ⟨rfl, Nat.le_refl _, hql, (fun i h1 h2 => absurd h2 (by omega)), rfl, rfl⟩
  · rintro m fr st ⟨k, rfl, hqk, hk, ha, rfl, rfl⟩
    by_cases hlt : k < l.length
    · have hcl := cone_lt (i := k) t hq0
      have hcl2 : cone k q t < l.length := by omega
      by_cases hb : l[k]! = l[cone k q t]!
      · repeat' (first | (simp (disch := first | omega | assumption | (refine @id ((_ : Bool) = _) ?_; exact id (by with_unfolding_all rfl)) | (exact Or.inl rfl) | (exact Or.inl trivial) | (exact okL_map _ (fun _ => rfl) _) | (simp only [List.length_map, List.length_set, List.length_replicate, List.length_cons, List.length_nil, List.length_append] <;> omega) | fail) only [VV0, VV1, VV2, VV3, VV4, VV5, VV6, VV7, mkFnV, vargs, slotsL, opdsA, not_true_eq_false, not_false_eq_true, decide_true, decide_false, Option.map_some, Option.bind_some, List.cons_append, List.nil_append, List.map_cons, List.map_nil, List.append_nil, Option.toList_some, Option.toList_none, Nat.reduceEqDiff, Nat.reduceLT, Nat.reduceAdd, Nat.reduceBEq, Int.reduceAdd, Int.reduceSub, Int.reduceLT, Int.reduceLE, Int.reduceEq, Int.reduceNeg, ↓reduceIte, if_true, if_false, Bool.false_eq_true, Bool.not_true, Bool.not_false, List.length_cons, List.length_nil, List.length_singleton, reduceCtorEq, Int.toNat_natCast, Nat.zero_add, Nat.add_zero, Nat.mul_one, Int.add_sub_cancel, eq_self, List.drop_zero, List.drop_succ_cons, Option.some.injEq, Prod.mk.injEq, Bool.and_true, Bool.true_and, Bool.and_self, true_or, List.set_cons_zero, List.set_cons_succ, scL, scD, expand, List.replicate, c8l0, iD_dv]) | (refine gC_drawW ?_) | (refine gI_dec (fun _ => ?_) (fun _ => ?_)) | (refine gG_dec (fun _ => ?_) (fun _ => ?_)) | (refine gPG_dec (fun _ => ?_) (fun _ => ?_)) | (refine gI_var (fun _ => ?_) (fun _ => ?_)) | (refine gG_var (fun _ => ?_) (fun _ => ?_)) | (refine gPG_var (fun _ => ?_) (fun _ => ?_)))
        refine call0_of ((fun st => (cone_p w n k q t hq0 (by omega) (by omega)).of hC rfl st rfl) _) ?_
        repeat' (first | (simp (disch := first | omega | assumption | (refine @id ((_ : Bool) = _) ?_; exact id (by with_unfolding_all rfl)) | (exact Or.inl rfl) | (exact Or.inl trivial) | (exact okL_map _ (fun _ => rfl) _) | (simp only [List.length_map, List.length_set, List.length_replicate, List.length_cons, List.length_nil, List.length_append] <;> omega) | fail) only [VV0, VV1, VV2, VV3, VV4, VV5, VV6, VV7, mkFnV, vargs, slotsL, opdsA, not_true_eq_false, not_false_eq_true, decide_true, decide_false, Option.map_some, Option.bind_some, List.cons_append, List.nil_append, List.map_cons, List.map_nil, List.append_nil, Option.toList_some, Option.toList_none, Nat.reduceEqDiff, Nat.reduceLT, Nat.reduceAdd, Nat.reduceBEq, Int.reduceAdd, Int.reduceSub, Int.reduceLT, Int.reduceLE, Int.reduceEq, Int.reduceNeg, ↓reduceIte, if_true, if_false, Bool.false_eq_true, Bool.not_true, Bool.not_false, List.length_cons, List.length_nil, List.length_singleton, reduceCtorEq, Int.toNat_natCast, Nat.zero_add, Nat.add_zero, Nat.mul_one, Int.add_sub_cancel, eq_self, List.drop_zero, List.drop_succ_cons, Option.some.injEq, Prod.mk.injEq, Bool.and_true, Bool.true_and, Bool.and_self, true_or, List.set_cons_zero, List.set_cons_succ, scL, scD, expand, List.replicate, iD_dv]) | (refine gC_drawW ?_) | (refine gI_dec (fun _ => ?_) (fun _ => ?_)) | (refine gG_dec (fun _ => ?_) (fun _ => ?_)) | (refine gPG_dec (fun _ => ?_) (fun _ => ?_)) | (refine gI_var (fun _ => ?_) (fun _ => ?_)) | (refine gG_var (fun _ => ?_) (fun _ => ?_)) | (refine gPG_var (fun _ => ?_) (fun _ => ?_)))
        all_goals first | exact ⟨_, _, _, by omega, .refl _ _, k + 1, rfl, by omega, hlt, (fun i h1 h2 => by rcases Nat.lt_succ_iff_lt_or_eq.1 h2 with h | h; exact ha i h1 h; subst h; exact hb), rfl, rfl⟩ | exact absurd hb ‹_›
      · rw [if_neg (fun h => hb ((cones_iff hq0 hql).1 h k hqk hlt))]
        repeat' (first | (simp (disch := first | omega | assumption | (refine @id ((_ : Bool) = _) ?_; exact id (by with_unfolding_all rfl)) | (exact Or.inl rfl) | (exact Or.inl trivial) | (exact okL_map _ (fun _ => rfl) _) | (simp only [List.length_map, List.length_set, List.length_replicate, List.length_cons, List.length_nil, List.length_append] <;> omega) | fail) only [VV0, VV1, VV2, VV3, VV4, VV5, VV6, VV7, mkFnV, vargs, slotsL, opdsA, not_true_eq_false, not_false_eq_true, decide_true, decide_false, Option.map_some, Option.bind_some, List.cons_append, List.nil_append, List.map_cons, List.map_nil, List.append_nil, Option.toList_some, Option.toList_none, Nat.reduceEqDiff, Nat.reduceLT, Nat.reduceAdd, Nat.reduceBEq, Int.reduceAdd, Int.reduceSub, Int.reduceLT, Int.reduceLE, Int.reduceEq, Int.reduceNeg, ↓reduceIte, if_true, if_false, Bool.false_eq_true, Bool.not_true, Bool.not_false, List.length_cons, List.length_nil, List.length_singleton, reduceCtorEq, Int.toNat_natCast, Nat.zero_add, Nat.add_zero, Nat.mul_one, Int.add_sub_cancel, eq_self, List.drop_zero, List.drop_succ_cons, Option.some.injEq, Prod.mk.injEq, Bool.and_true, Bool.true_and, Bool.and_self, true_or, List.set_cons_zero, List.set_cons_succ, scL, scD, expand, List.replicate, c8l0, iD_dv]) | (refine gC_drawW ?_) | (refine gI_dec (fun _ => ?_) (fun _ => ?_)) | (refine gG_dec (fun _ => ?_) (fun _ => ?_)) | (refine gPG_dec (fun _ => ?_) (fun _ => ?_)) | (refine gI_var (fun _ => ?_) (fun _ => ?_)) | (refine gG_var (fun _ => ?_) (fun _ => ?_)) | (refine gPG_var (fun _ => ?_) (fun _ => ?_)))
        refine call0_of ((fun st => (cone_p w n k q t hq0 (by omega) (by omega)).of hC rfl st rfl) _) ?_
        repeat' (first | (simp (disch := first | omega | assumption | (refine @id ((_ : Bool) = _) ?_; exact id (by with_unfolding_all rfl)) | (exact Or.inl rfl) | (exact Or.inl trivial) | (exact okL_map _ (fun _ => rfl) _) | (simp only [List.length_map, List.length_set, List.length_replicate, List.length_cons, List.length_nil, List.length_append] <;> omega) | fail) only [VV0, VV1, VV2, VV3, VV4, VV5, VV6, VV7, mkFnV, vargs, slotsL, opdsA, not_true_eq_false, not_false_eq_true, decide_true, decide_false, Option.map_some, Option.bind_some, List.cons_append, List.nil_append, List.map_cons, List.map_nil, List.append_nil, Option.toList_some, Option.toList_none, Nat.reduceEqDiff, Nat.reduceLT, Nat.reduceAdd, Nat.reduceBEq, Int.reduceAdd, Int.reduceSub, Int.reduceLT, Int.reduceLE, Int.reduceEq, Int.reduceNeg, ↓reduceIte, if_true, if_false, Bool.false_eq_true, Bool.not_true, Bool.not_false, List.length_cons, List.length_nil, List.length_singleton, reduceCtorEq, Int.toNat_natCast, Nat.zero_add, Nat.add_zero, Nat.mul_one, Int.add_sub_cancel, eq_self, List.drop_zero, List.drop_succ_cons, Option.some.injEq, Prod.mk.injEq, Bool.and_true, Bool.true_and, Bool.and_self, true_or, List.set_cons_zero, List.set_cons_succ, scL, scD, expand, List.replicate, iD_dv]) | (refine gC_drawW ?_) | (refine gI_dec (fun _ => ?_) (fun _ => ?_)) | (refine gG_dec (fun _ => ?_) (fun _ => ?_)) | (refine gPG_dec (fun _ => ?_) (fun _ => ?_)) | (refine gI_var (fun _ => ?_) (fun _ => ?_)) | (refine gG_var (fun _ => ?_) (fun _ => ?_)) | (refine gPG_var (fun _ => ?_) (fun _ => ?_)))
        all_goals first | exact weak_tupNil 3 1 rfl h0 rfl | exact absurd ‹_› hb
    · have : k = l.length := by omega
      subst this
      rw [if_pos ((cones_iff hq0 hql).2 ha)]
      have hlm : ((l.take q).map iD).length = q * 1 := by rw [List.length_map, hlq, Nat.mul_one]
      have hq1 : q ≠ 0 := by omega
      repeat' (first | (simp (disch := first | omega | assumption | (refine @id ((_ : Bool) = _) ?_; exact id (by with_unfolding_all rfl)) | (exact Or.inl rfl) | (exact Or.inl trivial) | (exact okL_map _ (fun _ => rfl) _) | (simp only [List.length_map, List.length_set, List.length_replicate, List.length_cons, List.length_nil, List.length_append] <;> omega) | fail) only [VV0, VV1, VV2, VV3, VV4, VV5, VV6, VV7, mkFnV, vargs, slotsL, opdsA, not_true_eq_false, not_false_eq_true, decide_true, decide_false, Option.map_some, Option.bind_some, List.cons_append, List.nil_append, List.map_cons, List.map_nil, List.append_nil, Option.toList_some, Option.toList_none, Nat.reduceEqDiff, Nat.reduceLT, Nat.reduceAdd, Nat.reduceBEq, Int.reduceAdd, Int.reduceSub, Int.reduceLT, Int.reduceLE, Int.reduceEq, Int.reduceNeg, ↓reduceIte, if_true, if_false, Bool.false_eq_true, Bool.not_true, Bool.not_false, List.length_cons, List.length_nil, List.length_singleton, reduceCtorEq, Int.toNat_natCast, Nat.zero_add, Nat.add_zero, Nat.mul_one, Int.add_sub_cancel, eq_self, List.drop_zero, List.drop_succ_cons, Option.some.injEq, Prod.mk.injEq, Bool.and_true, Bool.true_and, Bool.and_self, true_or, List.set_cons_zero, List.set_cons_succ, scL, scD, expand, List.replicate, c8l0, iD_dv, Nat.sub_zero]) | (refine gC_drawW ?_) | (refine gI_dec (fun _ => ?_) (fun _ => ?_)) | (refine gG_dec (fun _ => ?_) (fun _ => ?_)) | (refine gPG_dec (fun _ => ?_) (fun _ => ?_)) | (refine gI_var (fun _ => ?_) (fun _ => ?_)) | (refine gG_var (fun _ => ?_) (fun _ => ?_)) | (refine gPG_var (fun _ => ?_) (fun _ => ?_)))
      simp only [resV, resS, hlq]
      exact weak_to [(1, 0)] 1 h0 rfl rfl rfl rfl
theorem pfewest_p (s : Nat) (l : List Int) (t : Bool) (hl : l.length ≤ 5000) : VSpec (EN w (n + 7)) 9 [.sl s l.length (l.map iD), .sc (.bool t)] (resV (fewestF l t)) (resS (fewestF l t)) := by
  refine vspec_g rfl rfl (fun _ _ => rfl) (Nat.le_of_ble_eq_true rfl) (oldVals w) (retOK_tgr (map_nil_iff rfl)) rfl fun C hC h0 => ?_
  have hck := fun st => (check_p w (n + 1) s l (by omega)).of hC rfl st rfl
  by_cases c2 : chk l ≠ 0
  · have e : fewestF l t = ([], chk l) := if_pos c2
    rw [e]
    generalize chk l = x at c2 hck
    repeat' (first | (simp (disch := first | omega | assumption | (refine @id ((_ : Bool) = _) ?_; exact id (by with_unfolding_all rfl)) | (exact Or.inl rfl) | (exact Or.inl trivial) | (exact okL_map _ (fun _ => rfl) _) | (simp only [List.length_map, List.length_set, List.length_replicate, List.length_cons, List.length_nil, List.length_append] <;> omega) | fail) only [VV0, VV1, VV2, VV3, VV4, VV5, VV6, VV7, mkFnV, vargs, slotsL, opdsA, not_true_eq_false, not_false_eq_true, decide_true, decide_false, Option.map_some, Option.bind_some, List.cons_append, List.nil_append, List.map_cons, List.map_nil, List.append_nil, Option.toList_some, Option.toList_none, Nat.reduceEqDiff, Nat.reduceLT, Nat.reduceAdd, Nat.reduceBEq, Int.reduceAdd, Int.reduceSub, Int.reduceLT, Int.reduceLE, Int.reduceEq, Int.reduceNeg, ↓reduceIte, if_true, if_false, Bool.false_eq_true, Bool.not_true, Bool.not_false, List.length_cons, List.length_nil, List.length_singleton, reduceCtorEq, Int.toNat_natCast, Nat.zero_add, Nat.add_zero, Nat.mul_one, Int.add_sub_cancel, eq_self, List.drop_zero, List.drop_succ_cons, Option.some.injEq, Prod.mk.injEq, Bool.and_true, Bool.true_and, Bool.and_self, true_or, List.set_cons_zero, List.set_cons_succ, scL, scD, expand, List.replicate, c9]) | (refine gC_drawW ?_) | (refine gI_dec (fun _ => ?_) (fun _ => ?_)) | (refine gG_dec (fun _ => ?_) (fun _ => ?_)) | (refine gPG_dec (fun _ => ?_) (fun _ => ?_)) | (refine gI_var (fun _ => ?_) (fun _ => ?_)) | (refine gG_var (fun _ => ?_) (fun _ => ?_)) | (refine gPG_var (fun _ => ?_) (fun _ => ?_)))
    refine callV_flat (hck _) ?_
    repeat' (first | (simp (disch := first | omega | assumption | (refine @id ((_ : Bool) = _) ?_; exact id (by with_unfolding_all rfl)) | (exact Or.inl rfl) | (exact Or.inl trivial) | (exact okL_map _ (fun _ => rfl) _) | (simp only [List.length_map, List.length_set, List.length_replicate, List.length_cons, List.length_nil, List.length_append] <;> omega) | fail) only [VV0, VV1, VV2, VV3, VV4, VV5, VV6, VV7, mkFnV, vargs, slotsL, opdsA, not_true_eq_false, not_false_eq_true, decide_true, decide_false, Option.map_some, Option.bind_some, List.cons_append, List.nil_append, List.map_cons, List.map_nil, List.append_nil, Option.toList_some, Option.toList_none, Nat.reduceEqDiff, Nat.reduceLT, Nat.reduceAdd, Nat.reduceBEq, Int.reduceAdd, Int.reduceSub, Int.reduceLT, Int.reduceLE, Int.reduceEq, Int.reduceNeg, ↓reduceIte, if_true, if_false, Bool.false_eq_true, Bool.not_true, Bool.not_false, List.length_cons, List.length_nil, List.length_singleton, reduceCtorEq, Int.toNat_natCast, Nat.zero_add, Nat.add_zero, Nat.mul_one, Int.add_sub_cancel, eq_self, List.drop_zero, List.drop_succ_cons, Option.some.injEq, Prod.mk.injEq, Bool.and_true, Bool.true_and, Bool.and_self, true_or, List.set_cons_zero, List.set_cons_succ, scL, scD, expand, List.replicate]) | (refine gC_drawW ?_) | (refine gI_dec (fun _ => ?_) (fun _ => ?_)) | (refine gG_dec (fun _ => ?_) (fun _ => ?_)) | (refine gPG_dec (fun _ => ?_) (fun _ => ?_)) | (refine gI_var (fun _ => ?_) (fun _ => ?_)) | (refine gG_var (fun _ => ?_) (fun _ => ?_)) | (refine gPG_var (fun _ => ?_) (fun _ => ?_)))
    all_goals first | exact weak_tupNil 3 1 rfl h0 rfl | exact absurd trivial ‹¬True› | contradiction
  have c2' : chk l = 0 := Classical.not_not.1 c2
  rw [c2'] at hck
  repeat' (first | (simp (disch := first | omega | assumption | (refine @id ((_ : Bool) = _) ?_; exact id (by with_unfolding_all rfl)) | (exact Or.inl rfl) | (exact Or.inl trivial) | (exact okL_map _ (fun _ => rfl) _) | (simp only [List.length_map, List.length_set, List.length_replicate, List.length_cons, List.length_nil, List.length_append] <;> omega) | fail) only [VV0, VV1, VV2, VV3, VV4, VV5, VV6, VV7, mkFnV, vargs, slotsL, opdsA, not_true_eq_false, not_false_eq_true, decide_true, decide_false, Option.map_some, Option.bind_some, List.cons_append, List.nil_append, List.map_cons, List.map_nil, List.append_nil, Option.toList_some, Option.toList_none, Nat.reduceEqDiff, Nat.reduceLT, Nat.reduceAdd, Nat.reduceBEq, Int.reduceAdd, Int.reduceSub, Int.reduceLT, Int.reduceLE, Int.reduceEq, Int.reduceNeg, ↓reduceIte, if_true, if_false, Bool.false_eq_true, Bool.not_true, Bool.not_false, List.length_cons, List.length_nil, List.length_singleton, reduceCtorEq, Int.toNat_natCast, Nat.zero_add, Nat.add_zero, Nat.mul_one, Int.add_sub_cancel, eq_self, List.drop_zero, List.drop_succ_cons, Option.some.injEq, Prod.mk.injEq, Bool.and_true, Bool.true_and, Bool.and_self, true_or, List.set_cons_zero, List.set_cons_succ, scL, scD, expand, List.replicate, c9]) | (refine gC_drawW ?_) | (refine gI_dec (fun _ => ?_) (fun _ => ?_)) | (refine gG_dec (fun _ => ?_) (fun _ => ?_)) | (refine gPG_dec (fun _ => ?_) (fun _ => ?_)) | (refine gI_var (fun _ => ?_) (fun _ => ?_)) | (refine gG_var (fun _ => ?_) (fun _ => ?_)) | (refine gPG_var (fun _ => ?_) (fun _ => ?_)))
  refine callV_flat (hck _) ?_
  repeat' (first | (simp (disch := first | omega | assumption | (refine @id ((_ : Bool) = _) ?_; exact id (by with_unfolding_all rfl)) | (exact Or.inl rfl) | (exact Or.inl trivial) | (exact okL_map _ (fun _ => rfl) _) | (simp only [List.length_map, List.length_set, List.length_replicate, List.length_cons, List.length_nil, List.length_append] <;> omega) | fail) only [VV0, VV1, VV2, VV3, VV4, VV5, VV6, VV7, mkFnV, vargs, slotsL, opdsA, not_true_eq_false, not_false_eq_true, decide_true, decide_false, Option.map_some, Option.bind_some, List.cons_append, List.nil_append, List.map_cons, List.map_nil, List.append_nil, Option.toList_some, Option.toList_none, Nat.reduceEqDiff, Nat.reduceLT, Nat.reduceAdd, Nat.reduceBEq, Int.reduceAdd, Int.reduceSub, Int.reduceLT, Int.reduceLE, Int.reduceEq, Int.reduceNeg, ↓reduceIte, if_true, if_false, Bool.false_eq_true, Bool.not_true, Bool.not_false, List.length_cons, List.length_nil, List.length_singleton, reduceCtorEq, Int.toNat_natCast, Nat.zero_add, Nat.add_zero, Nat.mul_one, Int.add_sub_cancel, eq_self, List.drop_zero, List.drop_succ_cons, Option.some.injEq, Prod.mk.injEq, Bool.and_true, Bool.true_and, Bool.and_self, true_or, List.set_cons_zero, List.set_cons_succ, scL, scD, expand, List.replicate]) | (refine gC_drawW ?_) | (refine gI_dec (fun _ => ?_) (fun _ => ?_)) | (refine gG_dec (fun _ => ?_) (fun _ => ?_)) | (refine gPG_dec (fun _ => ?_) (fun _ => ?_)) | (refine gI_var (fun _ => ?_) (fun _ => ?_)) | (refine gG_var (fun _ => ?_) (fun _ => ?_)) | (refine gPG_var (fun _ => ?_) (fun _ => ?_)))
  refine g_while (fun m fr st => ∃ k : Nat, m = 64 - k ∧ k ≤ 64 ∧ k ≤ l.length ∧ (∀ i, i < k → okF l t i = false) ∧ fr = [(0, .sl s l.length (l.map iD)), (1, .sc (.bool t)), (7, .sc (.int .i64 ((k : Int) + 1)))] ∧ st = ⟨[], 0, 0⟩) 64 ?_ ⟨_, _, .refl _ _, 0, ?_⟩ ?_
  · rw [hC, callP_rounds]; unfold many; omega
  · exact ⟨rfl, by omega, by omega, (fun i h2 => absurd h2 (by omega)), rfl, rfl⟩
  · rintro m fr st ⟨k, rfl, hk, hkl, ha, rfl, rfl⟩
    by_cases hlt : k < 64 ∧ k < l.length
    · obtain ⟨h1, h2⟩ := hlt
      have hmin : ((k : Int) + 1 ≤ min 64 (l.length : Int)) := by omega
      repeat' (first | (simp (disch := first | omega | assumption | (refine @id ((_ : Bool) = _) ?_; exact id (by with_unfolding_all rfl)) | (exact Or.inl rfl) | (exact Or.inl trivial) | (exact okL_map _ (fun _ => rfl) _) | (simp only [List.length_map, List.length_set, List.length_replicate, List.length_cons, List.length_nil, List.length_append] <;> omega) | fail) only [VV0, VV1, VV2, VV3, VV4, VV5, VV6, VV7, mkFnV, vargs, slotsL, opdsA, not_true_eq_false, not_false_eq_true, decide_true, decide_false, Option.map_some, Option.bind_some, List.cons_append, List.nil_append, List.map_cons, List.map_nil, List.append_nil, Option.toList_some, Option.toList_none, Nat.reduceEqDiff, Nat.reduceLT, Nat.reduceAdd, Nat.reduceBEq, Int.reduceAdd, Int.reduceSub, Int.reduceLT, Int.reduceLE, Int.reduceEq, Int.reduceNeg, ↓reduceIte, if_true, if_false, Bool.false_eq_true, Bool.not_true, Bool.not_false, List.length_cons, List.length_nil, List.length_singleton, reduceCtorEq, Int.toNat_natCast, Nat.zero_add, Nat.add_zero, Nat.mul_one, Int.add_sub_cancel, eq_self, List.drop_zero, List.drop_succ_cons, Option.some.injEq, Prod.mk.injEq, Bool.and_true, Bool.true_and, Bool.and_self, true_or, List.set_cons_zero, List.set_cons_succ, scL, scD, expand, List.replicate, c9l0]) | (refine gC_drawW ?_) | (refine gI_dec (fun _ => ?_) (fun _ => ?_)) | (refine gG_dec (fun _ => ?_) (fun _ => ?_)) | (refine gPG_dec (fun _ => ?_) (fun _ => ?_)) | (refine gI_var (fun _ => ?_) (fun _ => ?_)) | (refine gG_var (fun _ => ?_) (fun _ => ?_)) | (refine gPG_var (fun _ => ?_) (fun _ => ?_)))
      refine callV_of (by rw [hC]; exact pcones_p w n s l ((k : Int) + 1) t hl) rfl rfl rfl ?_
      cases hb : okF l t k
      · have hb' : ¬ (conesF l ((k : Int) + 1) t).2 = 0 := by simpa [okF] using hb
        repeat' (first | (simp (disch := first | omega | assumption | (refine @id ((_ : Bool) = _) ?_; exact id (by with_unfolding_all rfl)) | (exact Or.inl rfl) | (exact Or.inl trivial) | (exact okL_map _ (fun _ => rfl) _) | (simp only [List.length_map, List.length_set, List.length_replicate, List.length_cons, List.length_nil, List.length_append] <;> omega) | fail) only [VV0, VV1, VV2, VV3, VV4, VV5, VV6, VV7, mkFnV, vargs, slotsL, opdsA, not_true_eq_false, not_false_eq_true, decide_true, decide_false, Option.map_some, Option.bind_some, List.cons_append, List.nil_append, List.map_cons, List.map_nil, List.append_nil, Option.toList_some, Option.toList_none, Nat.reduceEqDiff, Nat.reduceLT, Nat.reduceAdd, Nat.reduceBEq, Int.reduceAdd, Int.reduceSub, Int.reduceLT, Int.reduceLE, Int.reduceEq, Int.reduceNeg, ↓reduceIte, if_true, if_false, Bool.false_eq_true, Bool.not_true, Bool.not_false, List.length_cons, List.length_nil, List.length_singleton, reduceCtorEq, Int.toNat_natCast, Nat.zero_add, Nat.add_zero, Nat.mul_one, Int.add_sub_cancel, eq_self, List.drop_zero, List.drop_succ_cons, Option.some.injEq, Prod.mk.injEq, Bool.and_true, Bool.true_and, Bool.and_self, true_or, List.set_cons_zero, List.set_cons_succ, scL, scD, expand, List.replicate, vsh, vshL, shH, shO, fzSL, fzS]) | (refine gC_drawW ?_) | (refine gI_dec (fun _ => ?_) (fun _ => ?_)) | (refine gG_dec (fun _ => ?_) (fun _ => ?_)) | (refine gPG_dec (fun _ => ?_) (fun _ => ?_)) | (refine gI_var (fun _ => ?_) (fun _ => ?_)) | (refine gG_var (fun _ => ?_) (fun _ => ?_)) | (refine gPG_var (fun _ => ?_) (fun _ => ?_)))
        exact ⟨_, _, _, by omega, weak_to [] 0 h0 rfl rfl rfl rfl, k + 1, rfl, by omega, by omega, (fun i h2 => by rcases Nat.lt_succ_iff_lt_or_eq.1 h2 with h | h; exact ha i h; subst h; exact hb), rfl, rfl⟩
      · have hb' : (conesF l ((k : Int) + 1) t).2 = 0 := by simpa [okF] using hb
        rw [fewest_at c2' h1 ha hb]
        repeat' (first | (simp (disch := first | omega | assumption | (refine @id ((_ : Bool) = _) ?_; exact id (by with_unfolding_all rfl)) | (exact Or.inl rfl) | (exact Or.inl trivial) | (exact okL_map _ (fun _ => rfl) _) | (simp only [List.length_map, List.length_set, List.length_replicate, List.length_cons, List.length_nil, List.length_append] <;> omega) | fail) only [VV0, VV1, VV2, VV3, VV4, VV5, VV6, VV7, mkFnV, vargs, slotsL, opdsA, not_true_eq_false, not_false_eq_true, decide_true, decide_false, Option.map_some, Option.bind_some, List.cons_append, List.nil_append, List.map_cons, List.map_nil, List.append_nil, Option.toList_some, Option.toList_none, Nat.reduceEqDiff, Nat.reduceLT, Nat.reduceAdd, Nat.reduceBEq, Int.reduceAdd, Int.reduceSub, Int.reduceLT, Int.reduceLE, Int.reduceEq, Int.reduceNeg, ↓reduceIte, if_true, if_false, Bool.false_eq_true, Bool.not_true, Bool.not_false, List.length_cons, List.length_nil, List.length_singleton, reduceCtorEq, Int.toNat_natCast, Nat.zero_add, Nat.add_zero, Nat.mul_one, Int.add_sub_cancel, eq_self, List.drop_zero, List.drop_succ_cons, Option.some.injEq, Prod.mk.injEq, Bool.and_true, Bool.true_and, Bool.and_self, true_or, List.set_cons_zero, List.set_cons_succ, scL, scD, expand, List.replicate, vsh, vshL, shH, shO, fzSL, fzS]) | (refine gC_drawW ?_) | (refine gI_dec (fun _ => ?_) (fun _ => ?_)) | (refine gG_dec (fun _ => ?_) (fun _ => ?_)) | (refine gPG_dec (fun _ => ?_) (fun _ => ?_)) | (refine gI_var (fun _ => ?_) (fun _ => ?_)) | (refine gG_var (fun _ => ?_) (fun _ => ?_)) | (refine gPG_var (fun _ => ?_) (fun _ => ?_)))
        exact .refl _ _
    · rw [fewest_none c2' (fun i hi => by
        by_cases h : i < k
        · exact ha i h
        · exact ok_far c2' (by omega) hi)]
      repeat' (first | (simp (disch := first | omega | assumption | (refine @id ((_ : Bool) = _) ?_; exact id (by with_unfolding_all rfl)) | (exact Or.inl rfl) | (exact Or.inl trivial) | (exact okL_map _ (fun _ => rfl) _) | (simp only [List.length_map, List.length_set, List.length_replicate, List.length_cons, List.length_nil, List.length_append] <;> omega) | fail) only [VV0, VV1, VV2, VV3, VV4, VV5, VV6, VV7, mkFnV, vargs, slotsL, opdsA, not_true_eq_false, not_false_eq_true, decide_true, decide_false, Option.map_some, Option.bind_some, List.cons_append, List.nil_append, List.map_cons, List.map_nil, List.append_nil, Option.toList_some, Option.toList_none, Nat.reduceEqDiff, Nat.reduceLT, Nat.reduceAdd, Nat.reduceBEq, Int.reduceAdd, Int.reduceSub, Int.reduceLT, Int.reduceLE, Int.reduceEq, Int.reduceNeg, ↓reduceIte, if_true, if_false, Bool.false_eq_true, Bool.not_true, Bool.not_false, List.length_cons, List.length_nil, List.length_singleton, reduceCtorEq, Int.toNat_natCast, Nat.zero_add, Nat.add_zero, Nat.mul_one, Int.add_sub_cancel, eq_self, List.drop_zero, List.drop_succ_cons, Option.some.injEq, Prod.mk.injEq, Bool.and_true, Bool.true_and, Bool.and_self, true_or, List.set_cons_zero, List.set_cons_succ, scL, scD, expand, List.replicate, c9l0]) | (refine gC_drawW ?_) | (refine gI_dec (fun _ => ?_) (fun _ => ?_)) | (refine gG_dec (fun _ => ?_) (fun _ => ?_)) | (refine gPG_dec (fun _ => ?_) (fun _ => ?_)) | (refine gI_var (fun _ => ?_) (fun _ => ?_)) | (refine gG_var (fun _ => ?_) (fun _ => ?_)) | (refine gPG_var (fun _ => ?_) (fun _ => ?_)))
      exact weak_tupNil 3 1 rfl h0 rfl
theorem rfewest_p (s : Nat) (l : List Int) (t : Bool) (hl : l.length ≤ 5000) : VSpec (EN w (n + 3)) 10 [.sl s l.length (l.map iD), .sc (.bool t)] (resV (fewestF l t)) (resS (fewestF l t)) := by
  refine vspec_g rfl rfl (fun _ _ => rfl) (Nat.le_of_ble_eq_true rfl) (oldVals w) (retOK_tgr (map_nil_iff rfl)) rfl fun C hC h0 => ?_
  have hck := fun st => (rcheck_p w (n + 1) s l (by omega)).of hC rfl st rfl
  by_cases c2 : chk l ≠ 0
  · have e : fewestF l t = ([], chk l) := if_pos c2
    rw [e]
    generalize chk l = x at c2 hck
    repeat' (first | (simp (disch := first | omega | assumption | (refine @id ((_ : Bool) = _) ?_; exact id (by with_unfolding_all rfl)) | (exact Or.inl rfl) | (exact Or.inl trivial) | (exact okL_map _ (fun _ => rfl) _) | (simp only [List.length_map, List.length_set, List.length_replicate, List.length_cons, List.length_nil, List.length_append] <;> omega) | fail) only [VV0, VV1, VV2, VV3, VV4, VV5, VV6, VV7, mkFnV, vargs, slotsL, opdsA, not_true_eq_false, not_false_eq_true, decide_true, decide_false, Option.map_some, Option.bind_some, List.cons_append, List.nil_append, List.map_cons, List.map_nil, List.append_nil, Option.toList_some, Option.toList_none, Nat.reduceEqDiff, Nat.reduceLT, Nat.reduceAdd, Nat.reduceBEq, Int.reduceAdd, Int.reduceSub, Int.reduceLT, Int.reduceLE, Int.reduceEq, Int.reduceNeg, ↓reduceIte, if_true, if_false, Bool.false_eq_true, Bool.not_true, Bool.not_false, List.length_cons, List.length_nil, List.length_singleton, reduceCtorEq, Int.toNat_natCast, Nat.zero_add, Nat.add_zero, Nat.mul_one, Int.add_sub_cancel, eq_self, List.drop_zero, List.drop_succ_cons, Option.some.injEq, Prod.mk.injEq, Bool.and_true, Bool.true_and, Bool.and_self, true_or, List.set_cons_zero, List.set_cons_succ, scL, scD, expand, List.replicate, c10]) | (refine gC_drawW ?_) | (refine gI_dec (fun _ => ?_) (fun _ => ?_)) | (refine gG_dec (fun _ => ?_) (fun _ => ?_)) | (refine gPG_dec (fun _ => ?_) (fun _ => ?_)) | (refine gI_var (fun _ => ?_) (fun _ => ?_)) | (refine gG_var (fun _ => ?_) (fun _ => ?_)) | (refine gPG_var (fun _ => ?_) (fun _ => ?_)))
    refine callV_flat (hck _) ?_
    repeat' (first | (simp (disch := first | omega | assumption | (refine @id ((_ : Bool) = _) ?_; exact id (by with_unfolding_all rfl)) | (exact Or.inl rfl) | (exact Or.inl trivial) | (exact okL_map _ (fun _ => rfl) _) | (simp only [List.length_map, List.length_set, List.length_replicate, List.length_cons, List.length_nil, List.length_append] <;> omega) | fail) only [VV0, VV1, VV2, VV3, VV4, VV5, VV6, VV7, mkFnV, vargs, slotsL, opdsA, not_true_eq_false, not_false_eq_true, decide_true, decide_false, Option.map_some, Option.bind_some, List.cons_append, List.nil_append, List.map_cons, List.map_nil, List.append_nil, Option.toList_some, Option.toList_none, Nat.reduceEqDiff, Nat.reduceLT, Nat.reduceAdd, Nat.reduceBEq, Int.reduceAdd, Int.reduceSub, Int.reduceLT, Int.reduceLE, Int.reduceEq, Int.reduceNeg, ↓reduceIte, if_true, if_false, Bool.false_eq_true, Bool.not_true, Bool.not_false, List.length_cons, List.length_nil, List.length_singleton, reduceCtorEq, Int.toNat_natCast, Nat.zero_add, Nat.add_zero, Nat.mul_one, Int.add_sub_cancel, eq_self, List.drop_zero, List.drop_succ_cons, Option.some.injEq, Prod.mk.injEq, Bool.and_true, Bool.true_and, Bool.and_self, true_or, List.set_cons_zero, List.set_cons_succ, scL, scD, expand, List.replicate]) | (refine gC_drawW ?_) | (refine gI_dec (fun _ => ?_) (fun _ => ?_)) | (refine gG_dec (fun _ => ?_) (fun _ => ?_)) | (refine gPG_dec (fun _ => ?_) (fun _ => ?_)) | (refine gI_var (fun _ => ?_) (fun _ => ?_)) | (refine gG_var (fun _ => ?_) (fun _ => ?_)) | (refine gPG_var (fun _ => ?_) (fun _ => ?_)))
    all_goals try contradiction
    refine callV_flat (hck _) ?_
    repeat' (first | (simp (disch := first | omega | assumption | (refine @id ((_ : Bool) = _) ?_; exact id (by with_unfolding_all rfl)) | (exact Or.inl rfl) | (exact Or.inl trivial) | (exact okL_map _ (fun _ => rfl) _) | (simp only [List.length_map, List.length_set, List.length_replicate, List.length_cons, List.length_nil, List.length_append] <;> omega) | fail) only [VV0, VV1, VV2, VV3, VV4, VV5, VV6, VV7, mkFnV, vargs, slotsL, opdsA, not_true_eq_false, not_false_eq_true, decide_true, decide_false, Option.map_some, Option.bind_some, List.cons_append, List.nil_append, List.map_cons, List.map_nil, List.append_nil, Option.toList_some, Option.toList_none, Nat.reduceEqDiff, Nat.reduceLT, Nat.reduceAdd, Nat.reduceBEq, Int.reduceAdd, Int.reduceSub, Int.reduceLT, Int.reduceLE, Int.reduceEq, Int.reduceNeg, ↓reduceIte, if_true, if_false, Bool.false_eq_true, Bool.not_true, Bool.not_false, List.length_cons, List.length_nil, List.length_singleton, reduceCtorEq, Int.toNat_natCast, Nat.zero_add, Nat.add_zero, Nat.mul_one, Int.add_sub_cancel, eq_self, List.drop_zero, List.drop_succ_cons, Option.some.injEq, Prod.mk.injEq, Bool.and_true, Bool.true_and, Bool.and_self, true_or, List.set_cons_zero, List.set_cons_succ, scL, scD, expand, List.replicate]) | (refine gC_drawW ?_) | (refine gI_dec (fun _ => ?_) (fun _ => ?_)) | (refine gG_dec (fun _ => ?_) (fun _ => ?_)) | (refine gPG_dec (fun _ => ?_) (fun _ => ?_)) | (refine gI_var (fun _ => ?_) (fun _ => ?_)) | (refine gG_var (fun _ => ?_) (fun _ => ?_)) | (refine gPG_var (fun _ => ?_) (fun _ => ?_)))
    exact weak_tupNil 3 1 rfl h0 rfl
  have c2' : chk l = 0 := Classical.not_not.1 c2
  rw [c2'] at hck
  repeat' (first | (simp (disch := first | omega | assumption | (refine @id ((_ : Bool) = _) ?_; exact id (by with_unfolding_all rfl)) | (exact Or.inl rfl) | (exact Or.inl trivial) | (exact okL_map _ (fun _ => rfl) _) | (simp only [List.length_map, List.length_set, List.length_replicate, List.length_cons, List.length_nil, List.length_append] <;> omega) | fail) only [VV0, VV1, VV2, VV3, VV4, VV5, VV6, VV7, mkFnV, vargs, slotsL, opdsA, not_true_eq_false, not_false_eq_true, decide_true, decide_false, Option.map_some, Option.bind_some, List.cons_append, List.nil_append, List.map_cons, List.map_nil, List.append_nil, Option.toList_some, Option.toList_none, Nat.reduceEqDiff, Nat.reduceLT, Nat.reduceAdd, Nat.reduceBEq, Int.reduceAdd, Int.reduceSub, Int.reduceLT, Int.reduceLE, Int.reduceEq, Int.reduceNeg, ↓reduceIte, if_true, if_false, Bool.false_eq_true, Bool.not_true, Bool.not_false, List.length_cons, List.length_nil, List.length_singleton, reduceCtorEq, Int.toNat_natCast, Nat.zero_add, Nat.add_zero, Nat.mul_one, Int.add_sub_cancel, eq_self, List.drop_zero, List.drop_succ_cons, Option.some.injEq, Prod.mk.injEq, Bool.and_true, Bool.true_and, Bool.and_self, true_or, List.set_cons_zero, List.set_cons_succ, scL, scD, expand, List.replicate, c10]) | (refine gC_drawW ?_) | (refine gI_dec (fun _ => ?_) (fun _ => ?_)) | (refine gG_dec (fun _ => ?_) (fun _ => ?_)) | (refine gPG_dec (fun _ => ?_) (fun _ => ?_)) | (refine gI_var (fun _ => ?_) (fun _ => ?_)) | (refine gG_var (fun _ => ?_) (fun _ => ?_)) | (refine gPG_var (fun _ => ?_) (fun _ => ?_)))
  refine callV_flat (hck _) ?_
  repeat' (first | (simp (disch := first | omega | assumption | (refine @id ((_ : Bool) = _) ?_; exact id (by with_unfolding_all rfl)) | (exact Or.inl rfl) | (exact Or.inl trivial) | (exact okL_map _ (fun _ => rfl) _) | (simp only [List.length_map, List.length_set, List.length_replicate, List.length_cons, List.length_nil, List.length_append] <;> omega) | fail) only [VV0, VV1, VV2, VV3, VV4, VV5, VV6, VV7, mkFnV, vargs, slotsL, opdsA, not_true_eq_false, not_false_eq_true, decide_true, decide_false, Option.map_some, Option.bind_some, List.cons_append, List.nil_append, List.map_cons, List.map_nil, List.append_nil, Option.toList_some, Option.toList_none, Nat.reduceEqDiff, Nat.reduceLT, Nat.reduceAdd, Nat.reduceBEq, Int.reduceAdd, Int.reduceSub, Int.reduceLT, Int.reduceLE, Int.reduceEq, Int.reduceNeg, ↓reduceIte, if_true, if_false, Bool.false_eq_true, Bool.not_true, Bool.not_false, List.length_cons, List.length_nil, List.length_singleton, reduceCtorEq, Int.toNat_natCast, Nat.zero_add, Nat.add_zero, Nat.mul_one, Int.add_sub_cancel, eq_self, List.drop_zero, List.drop_succ_cons, Option.some.injEq, Prod.mk.injEq, Bool.and_true, Bool.true_and, Bool.and_self, true_or, List.set_cons_zero, List.set_cons_succ, scL, scD, expand, List.replicate]) | (refine gC_drawW ?_) | (refine gI_dec (fun _ => ?_) (fun _ => ?_)) | (refine gG_dec (fun _ => ?_) (fun _ => ?_)) | (refine gPG_dec (fun _ => ?_) (fun _ => ?_)) | (refine gI_var (fun _ => ?_) (fun _ => ?_)) | (refine gG_var (fun _ => ?_) (fun _ => ?_)) | (refine gPG_var (fun _ => ?_) (fun _ => ?_)))
  refine g_while (fun m fr st => ∃ k : Nat, m = 64 - k ∧ k ≤ 64 ∧ (∀ i, i < k → okF l t i = false) ∧ fr = [(0, .sl s l.length (l.map iD)), (1, .sc (.bool t)), (6, .sc (.int .i64 ((k : Int) + 1)))] ∧ st = ⟨[], 0, 0⟩) 64 ?_ ⟨_, _, .refl _ _, 0, ?_⟩ ?_
  · rw [hC, callP_rounds]; unfold many; omega
  · exact ⟨rfl, by omega, (fun i h2 => absurd h2 (by omega)), rfl, rfl⟩
  · rintro m fr st ⟨k, rfl, hk, ha, rfl, rfl⟩
    by_cases h1 : k < 64
    · repeat' (first | (simp (disch := first | omega | assumption | (refine @id ((_ : Bool) = _) ?_; exact id (by with_unfolding_all rfl)) | (exact Or.inl rfl) | (exact Or.inl trivial) | (exact okL_map _ (fun _ => rfl) _) | (simp only [List.length_map, List.length_set, List.length_replicate, List.length_cons, List.length_nil, List.length_append] <;> omega) | fail) only [VV0, VV1, VV2, VV3, VV4, VV5, VV6, VV7, mkFnV, vargs, slotsL, opdsA, not_true_eq_false, not_false_eq_true, decide_true, decide_false, Option.map_some, Option.bind_some, List.cons_append, List.nil_append, List.map_cons, List.map_nil, List.append_nil, Option.toList_some, Option.toList_none, Nat.reduceEqDiff, Nat.reduceLT, Nat.reduceAdd, Nat.reduceBEq, Int.reduceAdd, Int.reduceSub, Int.reduceLT, Int.reduceLE, Int.reduceEq, Int.reduceNeg, ↓reduceIte, if_true, if_false, Bool.false_eq_true, Bool.not_true, Bool.not_false, List.length_cons, List.length_nil, List.length_singleton, reduceCtorEq, Int.toNat_natCast, Nat.zero_add, Nat.add_zero, Nat.mul_one, Int.add_sub_cancel, eq_self, List.drop_zero, List.drop_succ_cons, Option.some.injEq, Prod.mk.injEq, Bool.and_true, Bool.true_and, Bool.and_self, true_or, List.set_cons_zero, List.set_cons_succ, scL, scD, expand, List.replicate, c10l0]) | (refine gC_drawW ?_) | (refine gI_dec (fun _ => ?_) (fun _ => ?_)) | (refine gG_dec (fun _ => ?_) (fun _ => ?_)) | (refine gPG_dec (fun _ => ?_) (fun _ => ?_)) | (refine gI_var (fun _ => ?_) (fun _ => ?_)) | (refine gG_var (fun _ => ?_) (fun _ => ?_)) | (refine gPG_var (fun _ => ?_) (fun _ => ?_)))
      refine callV_of (by rw [hC]; exact rcones_p w n s l ((k : Int) + 1) t hl) rfl rfl rfl ?_
      cases hb : okF l t k
      · have hb' : ¬ (conesF l ((k : Int) + 1) t).2 = 0 := by simpa [okF] using hb
        repeat' (first | (simp (disch := first | omega | assumption | (refine @id ((_ : Bool) = _) ?_; exact id (by with_unfolding_all rfl)) | (exact Or.inl rfl) | (exact Or.inl trivial) | (exact okL_map _ (fun _ => rfl) _) | (simp only [List.length_map, List.length_set, List.length_replicate, List.length_cons, List.length_nil, List.length_append] <;> omega) | fail) only [VV0, VV1, VV2, VV3, VV4, VV5, VV6, VV7, mkFnV, vargs, slotsL, opdsA, not_true_eq_false, not_false_eq_true, decide_true, decide_false, Option.map_some, Option.bind_some, List.cons_append, List.nil_append, List.map_cons, List.map_nil, List.append_nil, Option.toList_some, Option.toList_none, Nat.reduceEqDiff, Nat.reduceLT, Nat.reduceAdd, Nat.reduceBEq, Int.reduceAdd, Int.reduceSub, Int.reduceLT, Int.reduceLE, Int.reduceEq, Int.reduceNeg, ↓reduceIte, if_true, if_false, Bool.false_eq_true, Bool.not_true, Bool.not_false, List.length_cons, List.length_nil, List.length_singleton, reduceCtorEq, Int.toNat_natCast, Nat.zero_add, Nat.add_zero, Nat.mul_one, Int.add_sub_cancel, eq_self, List.drop_zero, List.drop_succ_cons, Option.some.injEq, Prod.mk.injEq, Bool.and_true, Bool.true_and, Bool.and_self, true_or, List.set_cons_zero, List.set_cons_succ, scL, scD, expand, List.replicate, vsh, vshL, shH, shO, fzSL, fzS]) | (refine gC_drawW ?_) | (refine gI_dec (fun _ => ?_) (fun _ => ?_)) | (refine gG_dec (fun _ => ?_) (fun _ => ?_)) | (refine gPG_dec (fun _ => ?_) (fun _ => ?_)) | (refine gI_var (fun _ => ?_) (fun _ => ?_)) | (refine gG_var (fun _ => ?_) (fun _ => ?_)) | (refine gPG_var (fun _ => ?_) (fun _ => ?_)))
        exact ⟨_, _, _, by omega, weak_to [] 0 h0 rfl rfl rfl rfl, k + 1, rfl, by omega, (fun i h2 => by rcases Nat.lt_succ_iff_lt_or_eq.1 h2 with h | h; exact ha i h; subst h; exact hb), rfl, rfl⟩
      · have hb' : (conesF l ((k : Int) + 1) t).2 = 0 := by simpa [okF] using hb
        rw [fewest_at c2' h1 ha hb]
        repeat' (first | (simp (disch := first | omega | assumption | (refine @id ((_ : Bool) = _) ?_; exact id (by with_unfolding_all rfl)) | (exact Or.inl rfl) | (exact Or.inl trivial) | (exact okL_map _ (fun _ => rfl) _) | (simp only [List.length_map, List.length_set, List.length_replicate, List.length_cons, List.length_nil, List.length_append] <;> omega) | fail) only [VV0, VV1, VV2, VV3, VV4, VV5, VV6, VV7, mkFnV, vargs, slotsL, opdsA, not_true_eq_false, not_false_eq_true, decide_true, decide_false, Option.map_some, Option.bind_some, List.cons_append, List.nil_append, List.map_cons, List.map_nil, List.append_nil, Option.toList_some, Option.toList_none, Nat.reduceEqDiff, Nat.reduceLT, Nat.reduceAdd, Nat.reduceBEq, Int.reduceAdd, Int.reduceSub, Int.reduceLT, Int.reduceLE, Int.reduceEq, Int.reduceNeg, ↓reduceIte, if_true, if_false, Bool.false_eq_true, Bool.not_true, Bool.not_false, List.length_cons, List.length_nil, List.length_singleton, reduceCtorEq, Int.toNat_natCast, Nat.zero_add, Nat.add_zero, Nat.mul_one, Int.add_sub_cancel, eq_self, List.drop_zero, List.drop_succ_cons, Option.some.injEq, Prod.mk.injEq, Bool.and_true, Bool.true_and, Bool.and_self, true_or, List.set_cons_zero, List.set_cons_succ, scL, scD, expand, List.replicate, vsh, vshL, shH, shO, fzSL, fzS]) | (refine gC_drawW ?_) | (refine gI_dec (fun _ => ?_) (fun _ => ?_)) | (refine gG_dec (fun _ => ?_) (fun _ => ?_)) | (refine gPG_dec (fun _ => ?_) (fun _ => ?_)) | (refine gI_var (fun _ => ?_) (fun _ => ?_)) | (refine gG_var (fun _ => ?_) (fun _ => ?_)) | (refine gPG_var (fun _ => ?_) (fun _ => ?_)))
        exact .refl _ _
    · rw [fewest_none c2' (fun i hi => ha i (by omega))]
      repeat' (first | (simp (disch := first | omega | assumption | (refine @id ((_ : Bool) = _) ?_; exact id (by with_unfolding_all rfl)) | (exact Or.inl rfl) | (exact Or.inl trivial) | (exact okL_map _ (fun _ => rfl) _) | (simp only [List.length_map, List.length_set, List.length_replicate, List.length_cons, List.length_nil, List.length_append] <;> omega) | fail) only [VV0, VV1, VV2, VV3, VV4, VV5, VV6, VV7, mkFnV, vargs, slotsL, opdsA, not_true_eq_false, not_false_eq_true, decide_true, decide_false, Option.map_some, Option.bind_some, List.cons_append, List.nil_append, List.map_cons, List.map_nil, List.append_nil, Option.toList_some, Option.toList_none, Nat.reduceEqDiff, Nat.reduceLT, Nat.reduceAdd, Nat.reduceBEq, Int.reduceAdd, Int.reduceSub, Int.reduceLT, Int.reduceLE, Int.reduceEq, Int.reduceNeg, ↓reduceIte, if_true, if_false, Bool.false_eq_true, Bool.not_true, Bool.not_false, List.length_cons, List.length_nil, List.length_singleton, reduceCtorEq, Int.toNat_natCast, Nat.zero_add, Nat.add_zero, Nat.mul_one, Int.add_sub_cancel, eq_self, List.drop_zero, List.drop_succ_cons, Option.some.injEq, Prod.mk.injEq, Bool.and_true, Bool.true_and, Bool.and_self, true_or, List.set_cons_zero, List.set_cons_succ, scL, scD, expand, List.replicate, c10l0]) | (refine gC_drawW ?_) | (refine gI_dec (fun _ => ?_) (fun _ => ?_)) | (refine gG_dec (fun _ => ?_) (fun _ => ?_)) | (refine gPG_dec (fun _ => ?_) (fun _ => ?_)) | (refine gI_var (fun _ => ?_) (fun _ => ?_)) | (refine gG_var (fun _ => ?_) (fun _ => ?_)) | (refine gPG_var (fun _ => ?_) (fun _ => ?_)))
      exact weak_tupNil 3 1 rfl h0 rfl
end
end Go.Proofs.Ytgglaaldlegckaa
