/- What stands here: functions of this program in the form that the evaluator runs. No condition: a later text proves that they are what the program holds. -/
import Derived.Test.YtdnmhlfjafjkbaaGreatDoorIr1
set_option linter.all false
namespace Go.Proofs.YtdnmhlfjafjkbaaGreatDoor.Vm
open Go Go.Ev
set_option maxRecDepth 100000
/-- slices.pdqsortCmpFunc[headword/class.set[uint8]] -/
def lp129_0 : IC := (.block 1 (.seq (.ops [⟨(some 21), none, .move (.tmp 2)⟩, ⟨(some 22), none, .move (.tmp 1)⟩, ⟨(some 23), none, .bin .sub none (.tmp 21) (.tmp 22)⟩, ⟨(some 12), none, .move (.tmp 23)⟩])
    (.seq (.seq (.ops [⟨(some 24), none, .move (.tmp 12)⟩, ⟨(some 25), none, .bin .leq none (.tmp 24) (.const (.int .i64 12))⟩])
    (.cond (.tmp 25) (.seq (.ops [⟨(some 26), none, .move (.tmp 0)⟩, ⟨(some 27), none, .move (.tmp 1)⟩, ⟨(some 28), none, .move (.tmp 2)⟩, ⟨(some 29), none, .move (.tmp 4)⟩, ⟨(some 30), none, .call false 161 [(.tmp 26), (.tmp 27), (.tmp 28), (.tmp 29)]⟩])
      .ret)
    .skip))
    (.seq (.seq (.ops [⟨(some 31), none, .move (.tmp 3)⟩, ⟨(some 32), none, .bin .eql none (.tmp 31) (.const (.int .i64 0))⟩])
    (.cond (.tmp 32) (.seq (.ops [⟨(some 33), none, .move (.tmp 0)⟩, ⟨(some 34), none, .move (.tmp 1)⟩, ⟨(some 35), none, .move (.tmp 2)⟩, ⟨(some 36), none, .move (.tmp 4)⟩, ⟨(some 37), none, .call false 162 [(.tmp 33), (.tmp 34), (.tmp 35), (.tmp 36)]⟩])
      .ret)
    .skip))
    (.seq (.seq (.ops [⟨(some 38), none, .move (.tmp 10)⟩, ⟨(some 39), none, .not (.tmp 38)⟩])
    (.cond (.tmp 39) (.seq (.ops [⟨(some 40), none, .move (.tmp 0)⟩, ⟨(some 41), none, .move (.tmp 1)⟩, ⟨(some 42), none, .move (.tmp 2)⟩, ⟨(some 43), none, .move (.tmp 4)⟩, ⟨(some 44), none, .call false 163 [(.tmp 40), (.tmp 41), (.tmp 42), (.tmp 43)]⟩])
      (.ops [⟨(some 45), none, .move (.tmp 3)⟩, ⟨(some 46), none, .bin .sub none (.tmp 45) (.const (.int .i64 1))⟩, ⟨(some 3), none, .move (.tmp 46)⟩]))
    .skip))
    (.seq (.ops [⟨(some 48), none, .move (.tmp 0)⟩, ⟨(some 49), none, .move (.tmp 1)⟩, ⟨(some 50), none, .move (.tmp 2)⟩, ⟨(some 51), none, .move (.tmp 4)⟩, ⟨(some 52), none, .call false 164 [(.tmp 48), (.tmp 49), (.tmp 50), (.tmp 51)]⟩, ⟨(some 47), none, .move (.tmp 52)⟩, ⟨(some 53), none, .extract 0 (.tmp 47)⟩, ⟨(some 54), none, .extract 1 (.tmp 47)⟩, ⟨(some 13), none, .move (.tmp 53)⟩, ⟨(some 14), none, .move (.tmp 54)⟩])
    (.seq (.seq (.ops [⟨(some 55), none, .move (.tmp 14)⟩, ⟨(some 56), none, .bin .eql none (.tmp 55) (.const (.int .i64 2))⟩])
    (.cond (.tmp 56) (.seq (.ops [⟨(some 57), none, .move (.tmp 0)⟩, ⟨(some 58), none, .move (.tmp 1)⟩, ⟨(some 59), none, .move (.tmp 2)⟩, ⟨(some 60), none, .move (.tmp 4)⟩, ⟨(some 61), none, .call false 165 [(.tmp 57), (.tmp 58), (.tmp 59), (.tmp 60)]⟩])
      (.seq (.ops [⟨(some 62), none, .move (.tmp 2)⟩, ⟨(some 63), none, .bin .sub none (.tmp 62) (.const (.int .i64 1))⟩, ⟨(some 64), none, .move (.tmp 13)⟩, ⟨(some 65), none, .move (.tmp 1)⟩, ⟨(some 66), none, .bin .sub none (.tmp 64) (.tmp 65)⟩, ⟨(some 67), none, .bin .sub none (.tmp 63) (.tmp 66)⟩, ⟨(some 13), none, .move (.tmp 67)⟩])
      (.ops [⟨(some 14), none, .move (.const (.int .i64 1))⟩])))
    .skip))
    (.seq (.seq (.ops [⟨(some 68), none, .move (.tmp 10)⟩, ⟨(some 69), none, .move (.tmp 68)⟩, ⟨(some 70), (some (69, true)), .move (.tmp 11)⟩, ⟨(some 71), none, .pick (.tmp 69) (.tmp 70) (.const (.bool false))⟩, ⟨(some 72), none, .move (.tmp 71)⟩, ⟨(some 73), (some (72, true)), .move (.tmp 14)⟩, ⟨(some 74), (some (72, true)), .bin .eql none (.tmp 73) (.const (.int .i64 1))⟩, ⟨(some 75), none, .pick (.tmp 72) (.tmp 74) (.const (.bool false))⟩])
    (.cond (.tmp 75) (.seq (.ops [⟨(some 76), none, .move (.tmp 0)⟩, ⟨(some 77), none, .move (.tmp 1)⟩, ⟨(some 78), none, .move (.tmp 2)⟩, ⟨(some 79), none, .move (.tmp 4)⟩, ⟨(some 80), none, .call false 166 [(.tmp 76), (.tmp 77), (.tmp 78), (.tmp 79)]⟩])
      (.cond (.tmp 80) .ret
      .skip))
    .skip))
    (.seq (.seq (.ops [⟨(some 81), none, .move (.tmp 1)⟩, ⟨(some 82), none, .bin .gtr none (.tmp 81) (.const (.int .i64 0))⟩, ⟨(some 83), none, .move (.tmp 82)⟩, ⟨(some 84), (some (83, true)), .move (.tmp 4)⟩, ⟨(some 85), (some (83, true)), .move (.tmp 0)⟩, ⟨(some 86), (some (83, true)), .move (.tmp 1)⟩, ⟨(some 87), (some (83, true)), .bin .sub none (.tmp 86) (.const (.int .i64 1))⟩, ⟨(some 88), (some (83, true)), .indexS 1 (.tmp 85) (.tmp 87)⟩, ⟨(some 89), (some (83, true)), .load 1 true (.tmp 88)⟩, ⟨(some 90), (some (83, true)), .move (.tmp 0)⟩, ⟨(some 91), (some (83, true)), .move (.tmp 13)⟩, ⟨(some 92), (some (83, true)), .indexS 1 (.tmp 90) (.tmp 91)⟩, ⟨(some 93), (some (83, true)), .load 1 true (.tmp 92)⟩, ⟨(some 94), (some (83, true)), .callv false (.tmp 84) [(.tmp 89), (.tmp 93)]⟩, ⟨(some 95), (some (83, true)), .bin .lss none (.tmp 94) (.const (.int .i64 0))⟩, ⟨(some 96), (some (83, true)), .not (.tmp 95)⟩, ⟨(some 97), none, .pick (.tmp 83) (.tmp 96) (.const (.bool false))⟩])
    (.cond (.tmp 97) (.seq (.ops [⟨(some 98), none, .move (.tmp 0)⟩, ⟨(some 99), none, .move (.tmp 1)⟩, ⟨(some 100), none, .move (.tmp 2)⟩, ⟨(some 101), none, .move (.tmp 13)⟩, ⟨(some 102), none, .move (.tmp 4)⟩, ⟨(some 103), none, .call false 167 [(.tmp 98), (.tmp 99), (.tmp 100), (.tmp 101), (.tmp 102)]⟩, ⟨(some 15), none, .move (.tmp 103)⟩])
      (.seq (.ops [⟨(some 104), none, .move (.tmp 15)⟩, ⟨(some 1), none, .move (.tmp 104)⟩])
      (.exit 1)))
    .skip))
    (.seq (.ops [⟨(some 106), none, .move (.tmp 0)⟩, ⟨(some 107), none, .move (.tmp 1)⟩, ⟨(some 108), none, .move (.tmp 2)⟩, ⟨(some 109), none, .move (.tmp 13)⟩, ⟨(some 110), none, .move (.tmp 4)⟩, ⟨(some 111), none, .call false 168 [(.tmp 106), (.tmp 107), (.tmp 108), (.tmp 109), (.tmp 110)]⟩, ⟨(some 105), none, .move (.tmp 111)⟩, ⟨(some 112), none, .extract 0 (.tmp 105)⟩, ⟨(some 113), none, .extract 1 (.tmp 105)⟩, ⟨(some 16), none, .move (.tmp 112)⟩, ⟨(some 17), none, .move (.tmp 113)⟩])
    (.seq (.ops [⟨(some 114), none, .move (.tmp 17)⟩, ⟨(some 11), none, .move (.tmp 114)⟩])
    (.seq (.ops [⟨(some 115), none, .move (.tmp 16)⟩, ⟨(some 116), none, .move (.tmp 1)⟩, ⟨(some 117), none, .bin .sub none (.tmp 115) (.tmp 116)⟩, ⟨(some 118), none, .move (.tmp 2)⟩, ⟨(some 119), none, .move (.tmp 16)⟩, ⟨(some 120), none, .bin .sub none (.tmp 118) (.tmp 119)⟩, ⟨(some 18), none, .move (.tmp 117)⟩, ⟨(some 19), none, .move (.tmp 120)⟩])
    (.seq (.ops [⟨(some 121), none, .move (.tmp 12)⟩, ⟨(some 122), none, .bin .quo none (.tmp 121) (.const (.int .i64 8))⟩, ⟨(some 20), none, .move (.tmp 122)⟩])
    (.seq (.ops [⟨(some 123), none, .move (.tmp 18)⟩, ⟨(some 124), none, .move (.tmp 19)⟩, ⟨(some 125), none, .bin .lss none (.tmp 123) (.tmp 124)⟩])
    (.cond (.tmp 125) (.seq (.ops [⟨(some 126), none, .move (.tmp 18)⟩, ⟨(some 127), none, .move (.tmp 20)⟩, ⟨(some 128), none, .bin .geq none (.tmp 126) (.tmp 127)⟩, ⟨(some 10), none, .move (.tmp 128)⟩])
      (.seq (.ops [⟨(some 129), none, .move (.tmp 0)⟩, ⟨(some 130), none, .move (.tmp 1)⟩, ⟨(some 131), none, .move (.tmp 16)⟩, ⟨(some 132), none, .move (.tmp 3)⟩, ⟨(some 133), none, .move (.tmp 4)⟩, ⟨(some 134), none, .call false 129 [(.tmp 129), (.tmp 130), (.tmp 131), (.tmp 132), (.tmp 133)]⟩])
      (.ops [⟨(some 135), none, .move (.tmp 16)⟩, ⟨(some 136), none, .bin .add none (.tmp 135) (.const (.int .i64 1))⟩, ⟨(some 1), none, .move (.tmp 136)⟩])))
    (.seq (.ops [⟨(some 137), none, .move (.tmp 19)⟩, ⟨(some 138), none, .move (.tmp 20)⟩, ⟨(some 139), none, .bin .geq none (.tmp 137) (.tmp 138)⟩, ⟨(some 10), none, .move (.tmp 139)⟩])
      (.seq (.ops [⟨(some 140), none, .move (.tmp 0)⟩, ⟨(some 141), none, .move (.tmp 16)⟩, ⟨(some 142), none, .bin .add none (.tmp 141) (.const (.int .i64 1))⟩, ⟨(some 143), none, .move (.tmp 2)⟩, ⟨(some 144), none, .move (.tmp 3)⟩, ⟨(some 145), none, .move (.tmp 4)⟩, ⟨(some 146), none, .call false 129 [(.tmp 140), (.tmp 142), (.tmp 143), (.tmp 144), (.tmp 145)]⟩])
      (.ops [⟨(some 147), none, .move (.tmp 16)⟩, ⟨(some 2), none, .move (.tmp 147)⟩]))))))))))))))))))
def ir129 : IF := ⟨(.seq (.ops [⟨(some 10), none, .move (.const (.bool true))⟩])
  (.seq (.ops [⟨(some 11), none, .move (.const (.bool true))⟩])
  (.block 0 (.loop false [0, 1, 2, 3, 4, 10, 11] lp129_0)))), []⟩
/-- slices.SortedFunc[headword/class.set[uint8]] -/
def ir130 : IF := ⟨(.seq (.ops [⟨(some 4), none, .move (.const (.slice none 0 0))⟩])
  (.seq (.ops [⟨(some 6), none, .move (.tmp 0)⟩, ⟨(some 7), none, .call false 169 [(.tmp 6)]⟩, ⟨(some 5), none, .move (.tmp 7)⟩])
  (.seq (.ops [⟨(some 8), none, .move (.tmp 5)⟩, ⟨(some 9), none, .move (.tmp 1)⟩, ⟨(some 10), none, .call false 80 [(.tmp 8), (.tmp 9)]⟩])
  (.seq (.ops [⟨(some 11), none, .move (.tmp 5)⟩, ⟨(some 4), none, .move (.tmp 11)⟩])
  .ret)))), [(4, none)]⟩
/-- slices.Values[[]headword/class.set[uint8],headword/class.set[uint8]] -/
def ir131 : IF := ⟨(.seq (.ops [⟨(some 1), none, .box (.tmp 0)⟩, ⟨(some 2), none, .move (.const .nilFunc)⟩])
  (.seq (.ops [⟨(some 3), none, .func (.func 170) [] [(.tmp 1)]⟩, ⟨(some 2), none, .move (.tmp 3)⟩])
  .ret)), [(2, none)]⟩
/-- slices.stableCmpFunc[int] -/
def lp132_0 : IC := (.seq (.seq (.ops [⟨(some 11), none, .move (.tmp 8)⟩, ⟨(some 12), none, .move (.tmp 1)⟩, ⟨(some 13), none, .bin .leq none (.tmp 11) (.tmp 12)⟩])
  (.cond (.tmp 13) .skip
  (.exit 0)))
  (.block 1 (.seq (.ops [⟨(some 14), none, .move (.tmp 0)⟩, ⟨(some 15), none, .move (.tmp 7)⟩, ⟨(some 16), none, .move (.tmp 8)⟩, ⟨(some 17), none, .move (.tmp 2)⟩, ⟨(some 18), none, .call false 171 [(.tmp 14), (.tmp 15), (.tmp 16), (.tmp 17)]⟩])
    (.seq (.ops [⟨(some 19), none, .move (.tmp 8)⟩, ⟨(some 7), none, .move (.tmp 19)⟩])
    (.ops [⟨(some 20), none, .move (.tmp 8)⟩, ⟨(some 21), none, .move (.tmp 6)⟩, ⟨(some 22), none, .bin .add none (.tmp 20) (.tmp 21)⟩, ⟨(some 8), none, .move (.tmp 22)⟩])))))
def lp132_1 : IC := (.seq (.seq (.ops [⟨(some 33), none, .move (.tmp 8)⟩, ⟨(some 34), none, .move (.tmp 1)⟩, ⟨(some 35), none, .bin .leq none (.tmp 33) (.tmp 34)⟩])
  (.cond (.tmp 35) .skip
  (.exit 4)))
  (.block 5 (.seq (.ops [⟨(some 36), none, .move (.tmp 0)⟩, ⟨(some 37), none, .move (.tmp 7)⟩, ⟨(some 38), none, .move (.tmp 7)⟩, ⟨(some 39), none, .move (.tmp 6)⟩, ⟨(some 40), none, .bin .add none (.tmp 38) (.tmp 39)⟩, ⟨(some 41), none, .move (.tmp 8)⟩, ⟨(some 42), none, .move (.tmp 2)⟩, ⟨(some 43), none, .call false 172 [(.tmp 36), (.tmp 37), (.tmp 40), (.tmp 41), (.tmp 42)]⟩])
    (.seq (.ops [⟨(some 44), none, .move (.tmp 8)⟩, ⟨(some 7), none, .move (.tmp 44)⟩])
    (.ops [⟨(some 45), none, .move (.tmp 8)⟩, ⟨(some 46), none, .move (.tmp 6)⟩, ⟨(some 47), none, .bin .mul none (.const (.int .i64 2)) (.tmp 46)⟩, ⟨(some 48), none, .bin .add none (.tmp 45) (.tmp 47)⟩, ⟨(some 8), none, .move (.tmp 48)⟩])))))
def lp132_2 : IC := (.seq (.seq (.ops [⟨(some 28), none, .move (.tmp 6)⟩, ⟨(some 29), none, .move (.tmp 1)⟩, ⟨(some 30), none, .bin .lss none (.tmp 28) (.tmp 29)⟩])
  (.cond (.tmp 30) .skip
  (.exit 2)))
  (.block 3 (.seq (.ops [⟨(some 31), none, .move (.tmp 6)⟩, ⟨(some 32), none, .bin .mul none (.const (.int .i64 2)) (.tmp 31)⟩, ⟨(some 7), none, .move (.const (.int .i64 0))⟩, ⟨(some 8), none, .move (.tmp 32)⟩])
    (.seq (.block 4 (.loop false [0, 1, 2, 6, 7, 8] lp132_1))
    (.seq (.seq (.ops [⟨(some 49), none, .move (.tmp 7)⟩, ⟨(some 50), none, .move (.tmp 6)⟩, ⟨(some 51), none, .bin .add none (.tmp 49) (.tmp 50)⟩, ⟨(some 9), none, .move (.tmp 51)⟩])
    (.seq (.ops [⟨(some 52), none, .move (.tmp 9)⟩, ⟨(some 53), none, .move (.tmp 1)⟩, ⟨(some 54), none, .bin .lss none (.tmp 52) (.tmp 53)⟩])
    (.cond (.tmp 54) (.ops [⟨(some 55), none, .move (.tmp 0)⟩, ⟨(some 56), none, .move (.tmp 7)⟩, ⟨(some 57), none, .move (.tmp 9)⟩, ⟨(some 58), none, .move (.tmp 1)⟩, ⟨(some 59), none, .move (.tmp 2)⟩, ⟨(some 60), none, .call false 172 [(.tmp 55), (.tmp 56), (.tmp 57), (.tmp 58), (.tmp 59)]⟩])
    .skip)))
    (.ops [⟨(some 61), none, .move (.tmp 6)⟩, ⟨(some 62), none, .bin .mul none (.tmp 61) (.const (.int .i64 2))⟩, ⟨(some 6), none, .move (.tmp 62)⟩]))))))
def ir132 : IF := ⟨(.seq (.ops [⟨(some 6), none, .move (.const (.int .i64 20))⟩])
  (.seq (.ops [⟨(some 10), none, .move (.tmp 6)⟩, ⟨(some 7), none, .move (.const (.int .i64 0))⟩, ⟨(some 8), none, .move (.tmp 10)⟩])
  (.seq (.block 0 (.loop false [0, 1, 2, 6, 7, 8] lp132_0))
  (.seq (.ops [⟨(some 23), none, .move (.tmp 0)⟩, ⟨(some 24), none, .move (.tmp 7)⟩, ⟨(some 25), none, .move (.tmp 1)⟩, ⟨(some 26), none, .move (.tmp 2)⟩, ⟨(some 27), none, .call false 171 [(.tmp 23), (.tmp 24), (.tmp 25), (.tmp 26)]⟩])
  (.block 2 (.loop false [0, 1, 2, 6] lp132_2)))))), []⟩
/-- headword/class.lacks -/
def ir134 : IF := ⟨(.seq (.ops [⟨(some 4), none, .move (.const (.int .i64 0))⟩])
  (.seq (.seq (.ops [⟨(some 5), none, .move (.tmp 0)⟩, ⟨(some 6), none, .min (.tmp 5) (.const (.int .i64 3))⟩])
  (.block 0 (.seq (.block 3 (.block 2 (.block 1 (.seq (.seq (.seq (.ops [⟨(some 8), none, .bin .eql none (.tmp 6) (.const (.int .i64 0))⟩, ⟨(some 7), none, .move (.tmp 8)⟩])
          (.cond (.tmp 7) (.exit 1)
          .skip))
          (.seq (.seq (.ops [⟨(some 10), none, .bin .eql none (.tmp 6) (.const (.int .i64 1))⟩, ⟨(some 9), none, .move (.tmp 10)⟩])
          (.cond (.tmp 9) (.exit 2)
          .skip))
          (.seq (.ops [⟨(some 12), none, .bin .eql none (.tmp 6) (.const (.int .i64 2))⟩, ⟨(some 11), none, .move (.tmp 12)⟩])
          (.cond (.tmp 11) (.exit 3)
          .skip))))
          (.exit 0)))))
    (.seq (.seq (.ops [⟨(some 13), none, .move (.tmp 1)⟩, ⟨(some 14), none, .not (.tmp 13)⟩])
    (.cond (.tmp 14) (.seq (.ops [⟨(some 4), none, .move (.const (.int .i64 4))⟩])
      .ret)
    .skip))
    (.exit 0)))))
  (.seq (.ops [⟨(some 4), none, .move (.const (.int .i64 0))⟩])
  .ret))), [(4, none)]⟩
/-- slices.IsSortedFunc[[]headword/class.set[uint8],headword/class.set[uint8]] -/
def lp135_0 : IC := (.seq (.seq (.ops [⟨(some 9), none, .move (.tmp 5)⟩, ⟨(some 10), none, .bin .gtr none (.tmp 9) (.const (.int .i64 0))⟩])
  (.cond (.tmp 10) .skip
  (.exit 0)))
  (.seq (.block 1 (.seq (.ops [⟨(some 13), none, .move (.tmp 1)⟩, ⟨(some 14), none, .move (.tmp 0)⟩, ⟨(some 15), none, .move (.tmp 5)⟩, ⟨(some 16), none, .indexS 1 (.tmp 14) (.tmp 15)⟩, ⟨(some 17), none, .load 1 true (.tmp 16)⟩, ⟨(some 18), none, .move (.tmp 0)⟩, ⟨(some 19), none, .move (.tmp 5)⟩, ⟨(some 20), none, .bin .sub none (.tmp 19) (.const (.int .i64 1))⟩, ⟨(some 21), none, .indexS 1 (.tmp 18) (.tmp 20)⟩, ⟨(some 22), none, .load 1 true (.tmp 21)⟩, ⟨(some 23), none, .callv false (.tmp 13) [(.tmp 17), (.tmp 22)]⟩, ⟨(some 24), none, .bin .lss none (.tmp 23) (.const (.int .i64 0))⟩])
    (.cond (.tmp 24) (.seq (.ops [⟨(some 4), none, .move (.const (.bool false))⟩])
      .ret)
    .skip)))
  (.ops [⟨(some 11), none, .move (.tmp 5)⟩, ⟨(some 12), none, .bin .sub none (.tmp 11) (.const (.int .i64 1))⟩, ⟨(some 5), none, .move (.tmp 12)⟩])))
def ir135 : IF := ⟨(.seq (.ops [⟨(some 4), none, .move (.const (.bool false))⟩])
  (.seq (.seq (.ops [⟨(some 6), none, .move (.tmp 0)⟩, ⟨(some 7), none, .len (.tmp 6)⟩, ⟨(some 8), none, .bin .sub none (.tmp 7) (.const (.int .i64 1))⟩, ⟨(some 5), none, .move (.tmp 8)⟩])
  (.block 0 (.loop false [0, 1, 5] lp135_0)))
  (.seq (.ops [⟨(some 4), none, .move (.const (.bool true))⟩])
  .ret))), [(4, none)]⟩
/-- math/bits.TrailingZeros64 -/
def ir137 : IF := ⟨(.seq (.ops [⟨(some 2), none, .move (.const (.int .i64 0))⟩])
  (.seq (.seq (.ops [⟨(some 3), none, .move (.tmp 0)⟩, ⟨(some 4), none, .bin .eql none (.tmp 3) (.const (.int .u64 0))⟩])
  (.cond (.tmp 4) (.seq (.ops [⟨(some 2), none, .move (.const (.int .i64 64))⟩])
    .ret)
  .skip))
  (.seq (.ops [⟨(some 5), none, .move (.tmp 0)⟩, ⟨(some 6), none, .move (.tmp 0)⟩, ⟨(some 7), none, .neg (.tmp 6)⟩, ⟨(some 8), none, .bin .and none (.tmp 5) (.tmp 7)⟩, ⟨(some 9), none, .bin .mul none (.tmp 8) (.const (.int .u64 285870213051353865))⟩, ⟨(some 10), none, .bin .shr none (.tmp 9) (.const (.int .u64 58))⟩, ⟨(some 11), none, .indexG 1 64 1 [0, 1, 56, 2, 57, 49, 28, 3, 61, 58, 42, 50, 38, 29, 17, 4, 62, 47, 59, 36, 45, 43, 51, 22, 53, 39, 33, 30, 24, 18, 12, 5, 63, 55, 48, 27, 60, 41, 37, 16, 46, 35, 44, 21, 52, 32, 23, 11, 54, 26, 40, 15, 34, 20, 31, 10, 25, 14, 19, 9, 13, 8, 7, 6] (.tmp 10)⟩, ⟨(some 12), none, .load 1 false (.tmp 11)⟩, ⟨(some 13), none, .conv .i64 (.tmp 12)⟩, ⟨(some 2), none, .move (.tmp 13)⟩])
  .ret))), [(2, none)]⟩
/-- cmp.isNaN[int] -/
def ir138 : IF := ⟨(.seq (.ops [⟨(some 2), none, .move (.const (.bool false))⟩])
  (.seq (.ops [⟨(some 3), none, .move (.tmp 0)⟩, ⟨(some 4), none, .move (.tmp 0)⟩, ⟨(some 5), none, .bin .neq none (.tmp 3) (.tmp 4)⟩, ⟨(some 2), none, .move (.tmp 5)⟩])
  .ret)), [(2, none)]⟩
/-- slices.Grow[[]int,int] -/
def ir139 : IF := ⟨(.seq (.ops [⟨(some 4), none, .move (.const (.slice none 0 0))⟩])
  (.seq (.seq (.ops [⟨(some 5), none, .move (.tmp 1)⟩, ⟨(some 6), none, .bin .lss none (.tmp 5) (.const (.int .i64 0))⟩])
  (.cond (.tmp 6) (.ops [⟨(some 7), none, .iface 9 (.const (.string ⟨#[99, 97, 110, 110, 111, 116, 32, 98, 101, 32, 110, 101, 103, 97, 116, 105, 118, 101]⟩))⟩, ⟨none, none, .die⟩])
  .skip))
  (.seq (.seq (.ops [⟨(some 8), none, .move (.tmp 1)⟩, ⟨(some 9), none, .move (.tmp 0)⟩, ⟨(some 10), none, .cap (.tmp 9)⟩, ⟨(some 11), none, .move (.tmp 0)⟩, ⟨(some 12), none, .len (.tmp 11)⟩, ⟨(some 13), none, .bin .sub none (.tmp 10) (.tmp 12)⟩, ⟨(some 14), none, .bin .sub none (.tmp 8) (.tmp 13)⟩, ⟨(some 1), none, .move (.tmp 14)⟩])
  (.seq (.ops [⟨(some 15), none, .move (.tmp 1)⟩, ⟨(some 16), none, .bin .gtr none (.tmp 15) (.const (.int .i64 0))⟩])
  (.cond (.tmp 16) (.ops [⟨(some 17), none, .move (.tmp 0)⟩, ⟨(some 18), none, .move (.tmp 0)⟩, ⟨(some 19), none, .cap (.tmp 18)⟩, ⟨(some 20), none, .slice 1 (.tmp 17) none (some (.tmp 19)) none⟩, ⟨(some 21), none, .move (.tmp 1)⟩, ⟨(some 22), none, .grow 1 false [(.v (.int .i64 0))] (.tmp 20) (.tmp 21)⟩, ⟨(some 23), none, .move (.tmp 0)⟩, ⟨(some 24), none, .len (.tmp 23)⟩, ⟨(some 25), none, .slice 1 (.tmp 22) none (some (.tmp 24)) none⟩, ⟨(some 0), none, .move (.tmp 25)⟩])
  .skip)))
  (.seq (.ops [⟨(some 26), none, .move (.tmp 0)⟩, ⟨(some 4), none, .move (.tmp 26)⟩])
  .ret)))), [(4, none)]⟩
/-- math/bits.Len32 -/
def ir149 : IF := ⟨(.seq (.ops [⟨(some 2), none, .move (.const (.int .i64 0))⟩])
  (.seq (.seq (.ops [⟨(some 3), none, .move (.tmp 0)⟩, ⟨(some 4), none, .bin .geq none (.tmp 3) (.const (.int .u32 65536))⟩])
  (.cond (.tmp 4) (.seq (.ops [⟨(some 5), none, .move (.tmp 0)⟩, ⟨(some 6), none, .bin .shr none (.tmp 5) (.const (.int .u64 16))⟩, ⟨(some 0), none, .move (.tmp 6)⟩])
    (.ops [⟨(some 2), none, .move (.const (.int .i64 16))⟩]))
  .skip))
  (.seq (.seq (.ops [⟨(some 7), none, .move (.tmp 0)⟩, ⟨(some 8), none, .bin .geq none (.tmp 7) (.const (.int .u32 256))⟩])
  (.cond (.tmp 8) (.seq (.ops [⟨(some 9), none, .move (.tmp 0)⟩, ⟨(some 10), none, .bin .shr none (.tmp 9) (.const (.int .u64 8))⟩, ⟨(some 0), none, .move (.tmp 10)⟩])
    (.ops [⟨(some 11), none, .move (.tmp 2)⟩, ⟨(some 12), none, .bin .add none (.tmp 11) (.const (.int .i64 8))⟩, ⟨(some 2), none, .move (.tmp 12)⟩]))
  .skip))
  (.seq (.ops [⟨(some 13), none, .move (.tmp 2)⟩, ⟨(some 14), none, .move (.tmp 0)⟩, ⟨(some 15), none, .conv .u8 (.tmp 14)⟩, ⟨(some 16), none, .indexStr (.const (.string ⟨#[0, 1, 2, 2, 3, 3, 3, 3, 4, 4, 4, 4, 4, 4, 4, 4, 5, 5, 5, 5, 5, 5, 5, 5, 5, 5, 5, 5, 5, 5, 5, 5, 6, 6, 6, 6, 6, 6, 6, 6, 6, 6, 6, 6, 6, 6, 6, 6, 6, 6, 6, 6, 6, 6, 6, 6, 6, 6, 6, 6, 6, 6, 6, 6, 7, 7, 7, 7, 7, 7, 7, 7, 7, 7, 7, 7, 7, 7, 7, 7, 7, 7, 7, 7, 7, 7, 7, 7, 7, 7, 7, 7, 7, 7, 7, 7, 7, 7, 7, 7, 7, 7, 7, 7, 7, 7, 7, 7, 7, 7, 7, 7, 7, 7, 7, 7, 7, 7, 7, 7, 7, 7, 7, 7, 7, 7, 7, 7, 8, 8, 8, 8, 8, 8, 8, 8, 8, 8, 8, 8, 8, 8, 8, 8, 8, 8, 8, 8, 8, 8, 8, 8, 8, 8, 8, 8, 8, 8, 8, 8, 8, 8, 8, 8, 8, 8, 8, 8, 8, 8, 8, 8, 8, 8, 8, 8, 8, 8, 8, 8, 8, 8, 8, 8, 8, 8, 8, 8, 8, 8, 8, 8, 8, 8, 8, 8, 8, 8, 8, 8, 8, 8, 8, 8, 8, 8, 8, 8, 8, 8, 8, 8, 8, 8, 8, 8, 8, 8, 8, 8, 8, 8, 8, 8, 8, 8, 8, 8, 8, 8, 8, 8, 8, 8, 8, 8, 8, 8, 8, 8, 8, 8, 8, 8, 8, 8, 8, 8, 8, 8, 8, 8, 8, 8, 8, 8]⟩)) (.tmp 15)⟩, ⟨(some 17), none, .conv .i64 (.tmp 16)⟩, ⟨(some 18), none, .bin .add none (.tmp 13) (.tmp 17)⟩, ⟨(some 2), none, .move (.tmp 18)⟩])
  .ret)))), [(2, none)]⟩
/-- math/bits.Len64 -/
def ir150 : IF := ⟨(.seq (.ops [⟨(some 2), none, .move (.const (.int .i64 0))⟩])
  (.seq (.seq (.ops [⟨(some 3), none, .move (.tmp 0)⟩, ⟨(some 4), none, .bin .geq none (.tmp 3) (.const (.int .u64 4294967296))⟩])
  (.cond (.tmp 4) (.seq (.ops [⟨(some 5), none, .move (.tmp 0)⟩, ⟨(some 6), none, .bin .shr none (.tmp 5) (.const (.int .u64 32))⟩, ⟨(some 0), none, .move (.tmp 6)⟩])
    (.ops [⟨(some 2), none, .move (.const (.int .i64 32))⟩]))
  .skip))
  (.seq (.seq (.ops [⟨(some 7), none, .move (.tmp 0)⟩, ⟨(some 8), none, .bin .geq none (.tmp 7) (.const (.int .u64 65536))⟩])
  (.cond (.tmp 8) (.seq (.ops [⟨(some 9), none, .move (.tmp 0)⟩, ⟨(some 10), none, .bin .shr none (.tmp 9) (.const (.int .u64 16))⟩, ⟨(some 0), none, .move (.tmp 10)⟩])
    (.ops [⟨(some 11), none, .move (.tmp 2)⟩, ⟨(some 12), none, .bin .add none (.tmp 11) (.const (.int .i64 16))⟩, ⟨(some 2), none, .move (.tmp 12)⟩]))
  .skip))
  (.seq (.seq (.ops [⟨(some 13), none, .move (.tmp 0)⟩, ⟨(some 14), none, .bin .geq none (.tmp 13) (.const (.int .u64 256))⟩])
  (.cond (.tmp 14) (.seq (.ops [⟨(some 15), none, .move (.tmp 0)⟩, ⟨(some 16), none, .bin .shr none (.tmp 15) (.const (.int .u64 8))⟩, ⟨(some 0), none, .move (.tmp 16)⟩])
    (.ops [⟨(some 17), none, .move (.tmp 2)⟩, ⟨(some 18), none, .bin .add none (.tmp 17) (.const (.int .i64 8))⟩, ⟨(some 2), none, .move (.tmp 18)⟩]))
  .skip))
  (.seq (.ops [⟨(some 19), none, .move (.tmp 2)⟩, ⟨(some 20), none, .move (.tmp 0)⟩, ⟨(some 21), none, .conv .u8 (.tmp 20)⟩, ⟨(some 22), none, .indexStr (.const (.string ⟨#[0, 1, 2, 2, 3, 3, 3, 3, 4, 4, 4, 4, 4, 4, 4, 4, 5, 5, 5, 5, 5, 5, 5, 5, 5, 5, 5, 5, 5, 5, 5, 5, 6, 6, 6, 6, 6, 6, 6, 6, 6, 6, 6, 6, 6, 6, 6, 6, 6, 6, 6, 6, 6, 6, 6, 6, 6, 6, 6, 6, 6, 6, 6, 6, 7, 7, 7, 7, 7, 7, 7, 7, 7, 7, 7, 7, 7, 7, 7, 7, 7, 7, 7, 7, 7, 7, 7, 7, 7, 7, 7, 7, 7, 7, 7, 7, 7, 7, 7, 7, 7, 7, 7, 7, 7, 7, 7, 7, 7, 7, 7, 7, 7, 7, 7, 7, 7, 7, 7, 7, 7, 7, 7, 7, 7, 7, 7, 7, 8, 8, 8, 8, 8, 8, 8, 8, 8, 8, 8, 8, 8, 8, 8, 8, 8, 8, 8, 8, 8, 8, 8, 8, 8, 8, 8, 8, 8, 8, 8, 8, 8, 8, 8, 8, 8, 8, 8, 8, 8, 8, 8, 8, 8, 8, 8, 8, 8, 8, 8, 8, 8, 8, 8, 8, 8, 8, 8, 8, 8, 8, 8, 8, 8, 8, 8, 8, 8, 8, 8, 8, 8, 8, 8, 8, 8, 8, 8, 8, 8, 8, 8, 8, 8, 8, 8, 8, 8, 8, 8, 8, 8, 8, 8, 8, 8, 8, 8, 8, 8, 8, 8, 8, 8, 8, 8, 8, 8, 8, 8, 8, 8, 8, 8, 8, 8, 8, 8, 8, 8, 8, 8, 8, 8, 8, 8, 8]⟩)) (.tmp 21)⟩, ⟨(some 23), none, .conv .i64 (.tmp 22)⟩, ⟨(some 24), none, .bin .add none (.tmp 19) (.tmp 23)⟩, ⟨(some 2), none, .move (.tmp 24)⟩])
  .ret))))), [(2, none)]⟩
/-- slices.Index[[]headword/class.set[uint8],headword/class.set[uint8]] -/
def lp160_0 : IC := (.seq (.ops [⟨(some 9), none, .bin .lss none (.tmp 8) (.tmp 7)⟩])
  (.seq (.cond (.tmp 9) .skip
  (.exit 0))
  (.seq (.block 1 (.seq (.ops [⟨(some 10), none, .move (.tmp 8)⟩, ⟨(some 5), none, .move (.tmp 10)⟩])
    (.seq (.ops [⟨(some 11), none, .load 1 true (.tmp 3)⟩, ⟨(some 12), none, .move (.tmp 0)⟩, ⟨(some 13), none, .move (.tmp 5)⟩, ⟨(some 14), none, .indexS 1 (.tmp 12) (.tmp 13)⟩, ⟨(some 15), none, .load 1 true (.tmp 14)⟩, ⟨(some 16), none, .bin .eql (some 3) (.tmp 11) (.tmp 15)⟩])
    (.cond (.tmp 16) (.seq (.ops [⟨(some 17), none, .move (.tmp 5)⟩, ⟨(some 4), none, .move (.tmp 17)⟩])
      .ret)
    .skip))))
  (.ops [⟨(some 18), none, .bin .add none (.tmp 8) (.const (.int .i64 1))⟩, ⟨(some 8), none, .move (.tmp 18)⟩]))))
def ir160 : IF := ⟨(.seq (.ops [⟨(some 3), none, .box (.tmp 1)⟩, ⟨(some 4), none, .move (.const (.int .i64 0))⟩])
  (.seq (.seq (.ops [⟨(some 6), none, .move (.tmp 0)⟩, ⟨(some 7), none, .len (.tmp 6)⟩, ⟨(some 8), none, .move (.const (.int .i64 0))⟩])
  (.block 0 (.loop true [0, 3, 7, 8] lp160_0)))
  (.seq (.ops [⟨(some 4), none, .move (.const (.int .i64 (-1)))⟩])
  .ret))), [(4, none)]⟩
/-- slices.insertionSortCmpFunc[headword/class.set[uint8]] -/
def lp161_0 : IC := (.seq (.seq (.ops [⟨(some 18), none, .move (.tmp 9)⟩, ⟨(some 19), none, .move (.tmp 1)⟩, ⟨(some 20), none, .bin .gtr none (.tmp 18) (.tmp 19)⟩, ⟨(some 21), none, .move (.tmp 20)⟩, ⟨(some 22), (some (21, true)), .move (.tmp 3)⟩, ⟨(some 23), (some (21, true)), .move (.tmp 0)⟩, ⟨(some 24), (some (21, true)), .move (.tmp 9)⟩, ⟨(some 25), (some (21, true)), .indexS 1 (.tmp 23) (.tmp 24)⟩, ⟨(some 26), (some (21, true)), .load 1 true (.tmp 25)⟩, ⟨(some 27), (some (21, true)), .move (.tmp 0)⟩, ⟨(some 28), (some (21, true)), .move (.tmp 9)⟩, ⟨(some 29), (some (21, true)), .bin .sub none (.tmp 28) (.const (.int .i64 1))⟩, ⟨(some 30), (some (21, true)), .indexS 1 (.tmp 27) (.tmp 29)⟩, ⟨(some 31), (some (21, true)), .load 1 true (.tmp 30)⟩, ⟨(some 32), (some (21, true)), .callv false (.tmp 22) [(.tmp 26), (.tmp 31)]⟩, ⟨(some 33), (some (21, true)), .bin .lss none (.tmp 32) (.const (.int .i64 0))⟩, ⟨(some 34), none, .pick (.tmp 21) (.tmp 33) (.const (.bool false))⟩])
  (.cond (.tmp 34) .skip
  (.exit 2)))
  (.seq (.block 3 (.ops [⟨(some 37), none, .move (.tmp 0)⟩, ⟨(some 38), none, .move (.tmp 9)⟩, ⟨(some 39), none, .move (.tmp 0)⟩, ⟨(some 40), none, .move (.tmp 9)⟩, ⟨(some 41), none, .bin .sub none (.tmp 40) (.const (.int .i64 1))⟩, ⟨(some 42), none, .move (.tmp 0)⟩, ⟨(some 43), none, .move (.tmp 9)⟩, ⟨(some 44), none, .bin .sub none (.tmp 43) (.const (.int .i64 1))⟩, ⟨(some 45), none, .indexS 1 (.tmp 42) (.tmp 44)⟩, ⟨(some 46), none, .load 1 true (.tmp 45)⟩, ⟨(some 47), none, .move (.tmp 0)⟩, ⟨(some 48), none, .move (.tmp 9)⟩, ⟨(some 49), none, .indexS 1 (.tmp 47) (.tmp 48)⟩, ⟨(some 50), none, .load 1 true (.tmp 49)⟩, ⟨(some 51), none, .indexS 1 (.tmp 37) (.tmp 38)⟩, ⟨none, none, .store 1 (.tmp 51) (.tmp 46)⟩, ⟨(some 52), none, .indexS 1 (.tmp 39) (.tmp 41)⟩, ⟨none, none, .store 1 (.tmp 52) (.tmp 50)⟩]))
  (.ops [⟨(some 35), none, .move (.tmp 9)⟩, ⟨(some 36), none, .bin .sub none (.tmp 35) (.const (.int .i64 1))⟩, ⟨(some 9), none, .move (.tmp 36)⟩])))
def lp161_1 : IC := (.seq (.seq (.ops [⟨(some 12), none, .move (.tmp 8)⟩, ⟨(some 13), none, .move (.tmp 2)⟩, ⟨(some 14), none, .bin .lss none (.tmp 12) (.tmp 13)⟩])
  (.cond (.tmp 14) .skip
  (.exit 0)))
  (.seq (.block 1 (.seq (.ops [⟨(some 17), none, .move (.tmp 8)⟩, ⟨(some 9), none, .move (.tmp 17)⟩])
    (.block 2 (.loop false [0, 1, 2, 3, 8, 9] lp161_0))))
  (.ops [⟨(some 15), none, .move (.tmp 8)⟩, ⟨(some 16), none, .bin .add none (.tmp 15) (.const (.int .i64 1))⟩, ⟨(some 8), none, .move (.tmp 16)⟩])))
def ir161 : IF := ⟨(.seq (.ops [⟨(some 10), none, .move (.tmp 1)⟩, ⟨(some 11), none, .bin .add none (.tmp 10) (.const (.int .i64 1))⟩, ⟨(some 8), none, .move (.tmp 11)⟩])
  (.block 0 (.loop false [0, 1, 2, 3, 8] lp161_1))), []⟩
/-- slices.Collect[headword/class.set[uint8]] -/
def ir169 : IF := ⟨(.seq (.ops [⟨(some 2), none, .move (.const (.slice none 0 0))⟩])
  (.seq (.ops [⟨(some 3), none, .move (.tmp 0)⟩, ⟨(some 4), none, .call false 192 [(.const (.slice none 0 0)), (.tmp 3)]⟩, ⟨(some 2), none, .move (.tmp 4)⟩])
  .ret)), [(2, none)]⟩
/-- slices.Values[[]headword/class.set[uint8],headword/class.set[uint8]]$1 -/
def lp170_0 : IC := (.seq (.ops [⟨(some 8), none, .bin .lss none (.tmp 7) (.tmp 6)⟩])
  (.seq (.cond (.tmp 8) .skip
  (.exit 0))
  (.seq (.block 1 (.seq (.ops [⟨(some 9), none, .indexS 1 (.tmp 5) (.tmp 7)⟩, ⟨(some 10), none, .load 1 true (.tmp 9)⟩, ⟨(some 4), none, .alloc [(.v (.int .u8 0))]⟩, ⟨none, none, .store 1 (.tmp 4) (.tmp 10)⟩])
    (.seq (.ops [⟨(some 11), none, .move (.tmp 0)⟩, ⟨(some 12), none, .load 1 true (.tmp 4)⟩, ⟨(some 13), none, .callv false (.tmp 11) [(.tmp 12)]⟩, ⟨(some 14), none, .not (.tmp 13)⟩])
    (.cond (.tmp 14) .ret
    .skip))))
  (.ops [⟨(some 15), none, .bin .add none (.tmp 7) (.const (.int .i64 1))⟩, ⟨(some 7), none, .move (.tmp 15)⟩]))))
def ir170 : IF := ⟨(.seq (.ops [⟨(some 5), none, .load 1 false (.tmp 1)⟩, ⟨(some 6), none, .len (.tmp 5)⟩, ⟨(some 7), none, .move (.const (.int .i64 0))⟩])
  (.block 0 (.loop false [0, 5, 6, 7] lp170_0))), []⟩
/-- slices.insertionSortCmpFunc[int] -/
def lp171_0 : IC := (.seq (.seq (.ops [⟨(some 18), none, .move (.tmp 9)⟩, ⟨(some 19), none, .move (.tmp 1)⟩, ⟨(some 20), none, .bin .gtr none (.tmp 18) (.tmp 19)⟩, ⟨(some 21), none, .move (.tmp 20)⟩, ⟨(some 22), (some (21, true)), .move (.tmp 3)⟩, ⟨(some 23), (some (21, true)), .move (.tmp 0)⟩, ⟨(some 24), (some (21, true)), .move (.tmp 9)⟩, ⟨(some 25), (some (21, true)), .indexS 1 (.tmp 23) (.tmp 24)⟩, ⟨(some 26), (some (21, true)), .load 1 false (.tmp 25)⟩, ⟨(some 27), (some (21, true)), .move (.tmp 0)⟩, ⟨(some 28), (some (21, true)), .move (.tmp 9)⟩, ⟨(some 29), (some (21, true)), .bin .sub none (.tmp 28) (.const (.int .i64 1))⟩, ⟨(some 30), (some (21, true)), .indexS 1 (.tmp 27) (.tmp 29)⟩, ⟨(some 31), (some (21, true)), .load 1 false (.tmp 30)⟩, ⟨(some 32), (some (21, true)), .callv false (.tmp 22) [(.tmp 26), (.tmp 31)]⟩, ⟨(some 33), (some (21, true)), .bin .lss none (.tmp 32) (.const (.int .i64 0))⟩, ⟨(some 34), none, .pick (.tmp 21) (.tmp 33) (.const (.bool false))⟩])
  (.cond (.tmp 34) .skip
  (.exit 2)))
  (.seq (.block 3 (.ops [⟨(some 37), none, .move (.tmp 0)⟩, ⟨(some 38), none, .move (.tmp 9)⟩, ⟨(some 39), none, .move (.tmp 0)⟩, ⟨(some 40), none, .move (.tmp 9)⟩, ⟨(some 41), none, .bin .sub none (.tmp 40) (.const (.int .i64 1))⟩, ⟨(some 42), none, .move (.tmp 0)⟩, ⟨(some 43), none, .move (.tmp 9)⟩, ⟨(some 44), none, .bin .sub none (.tmp 43) (.const (.int .i64 1))⟩, ⟨(some 45), none, .indexS 1 (.tmp 42) (.tmp 44)⟩, ⟨(some 46), none, .load 1 false (.tmp 45)⟩, ⟨(some 47), none, .move (.tmp 0)⟩, ⟨(some 48), none, .move (.tmp 9)⟩, ⟨(some 49), none, .indexS 1 (.tmp 47) (.tmp 48)⟩, ⟨(some 50), none, .load 1 false (.tmp 49)⟩, ⟨(some 51), none, .indexS 1 (.tmp 37) (.tmp 38)⟩, ⟨none, none, .store 1 (.tmp 51) (.tmp 46)⟩, ⟨(some 52), none, .indexS 1 (.tmp 39) (.tmp 41)⟩, ⟨none, none, .store 1 (.tmp 52) (.tmp 50)⟩]))
  (.ops [⟨(some 35), none, .move (.tmp 9)⟩, ⟨(some 36), none, .bin .sub none (.tmp 35) (.const (.int .i64 1))⟩, ⟨(some 9), none, .move (.tmp 36)⟩])))
def lp171_1 : IC := (.seq (.seq (.ops [⟨(some 12), none, .move (.tmp 8)⟩, ⟨(some 13), none, .move (.tmp 2)⟩, ⟨(some 14), none, .bin .lss none (.tmp 12) (.tmp 13)⟩])
  (.cond (.tmp 14) .skip
  (.exit 0)))
  (.seq (.block 1 (.seq (.ops [⟨(some 17), none, .move (.tmp 8)⟩, ⟨(some 9), none, .move (.tmp 17)⟩])
    (.block 2 (.loop false [0, 1, 2, 3, 8, 9] lp171_0))))
  (.ops [⟨(some 15), none, .move (.tmp 8)⟩, ⟨(some 16), none, .bin .add none (.tmp 15) (.const (.int .i64 1))⟩, ⟨(some 8), none, .move (.tmp 16)⟩])))
def ir171 : IF := ⟨(.seq (.ops [⟨(some 10), none, .move (.tmp 1)⟩, ⟨(some 11), none, .bin .add none (.tmp 10) (.const (.int .i64 1))⟩, ⟨(some 8), none, .move (.tmp 11)⟩])
  (.block 0 (.loop false [0, 1, 2, 3, 8] lp171_1))), []⟩
/-- slices.symMergeCmpFunc[int] -/
def lp172_0 : IC := (.seq (.seq (.ops [⟨(some 31), none, .move (.tmp 10)⟩, ⟨(some 32), none, .move (.tmp 11)⟩, ⟨(some 33), none, .bin .lss none (.tmp 31) (.tmp 32)⟩])
  (.cond (.tmp 33) .skip
  (.exit 0)))
  (.block 1 (.seq (.ops [⟨(some 34), none, .move (.tmp 10)⟩, ⟨(some 35), none, .move (.tmp 11)⟩, ⟨(some 36), none, .bin .add none (.tmp 34) (.tmp 35)⟩, ⟨(some 37), none, .conv .u64 (.tmp 36)⟩, ⟨(some 38), none, .bin .shr none (.tmp 37) (.const (.int .u64 1))⟩, ⟨(some 39), none, .conv .i64 (.tmp 38)⟩, ⟨(some 12), none, .move (.tmp 39)⟩])
    (.seq (.ops [⟨(some 40), none, .move (.tmp 4)⟩, ⟨(some 41), none, .move (.tmp 0)⟩, ⟨(some 42), none, .move (.tmp 12)⟩, ⟨(some 43), none, .indexS 1 (.tmp 41) (.tmp 42)⟩, ⟨(some 44), none, .load 1 false (.tmp 43)⟩, ⟨(some 45), none, .move (.tmp 0)⟩, ⟨(some 46), none, .move (.tmp 1)⟩, ⟨(some 47), none, .indexS 1 (.tmp 45) (.tmp 46)⟩, ⟨(some 48), none, .load 1 false (.tmp 47)⟩, ⟨(some 49), none, .callv false (.tmp 40) [(.tmp 44), (.tmp 48)]⟩, ⟨(some 50), none, .bin .lss none (.tmp 49) (.const (.int .i64 0))⟩])
    (.cond (.tmp 50) (.ops [⟨(some 51), none, .move (.tmp 12)⟩, ⟨(some 52), none, .bin .add none (.tmp 51) (.const (.int .i64 1))⟩, ⟨(some 10), none, .move (.tmp 52)⟩])
    (.ops [⟨(some 53), none, .move (.tmp 12)⟩, ⟨(some 11), none, .move (.tmp 53)⟩]))))))
def lp172_1 : IC := (.seq (.seq (.ops [⟨(some 55), none, .move (.tmp 13)⟩, ⟨(some 56), none, .move (.tmp 10)⟩, ⟨(some 57), none, .bin .sub none (.tmp 56) (.const (.int .i64 1))⟩, ⟨(some 58), none, .bin .lss none (.tmp 55) (.tmp 57)⟩])
  (.cond (.tmp 58) .skip
  (.exit 2)))
  (.seq (.block 3 (.ops [⟨(some 61), none, .move (.tmp 0)⟩, ⟨(some 62), none, .move (.tmp 13)⟩, ⟨(some 63), none, .move (.tmp 0)⟩, ⟨(some 64), none, .move (.tmp 13)⟩, ⟨(some 65), none, .bin .add none (.tmp 64) (.const (.int .i64 1))⟩, ⟨(some 66), none, .move (.tmp 0)⟩, ⟨(some 67), none, .move (.tmp 13)⟩, ⟨(some 68), none, .bin .add none (.tmp 67) (.const (.int .i64 1))⟩, ⟨(some 69), none, .indexS 1 (.tmp 66) (.tmp 68)⟩, ⟨(some 70), none, .load 1 false (.tmp 69)⟩, ⟨(some 71), none, .move (.tmp 0)⟩, ⟨(some 72), none, .move (.tmp 13)⟩, ⟨(some 73), none, .indexS 1 (.tmp 71) (.tmp 72)⟩, ⟨(some 74), none, .load 1 false (.tmp 73)⟩, ⟨(some 75), none, .indexS 1 (.tmp 61) (.tmp 62)⟩, ⟨none, none, .store 1 (.tmp 75) (.tmp 70)⟩, ⟨(some 76), none, .indexS 1 (.tmp 63) (.tmp 65)⟩, ⟨none, none, .store 1 (.tmp 76) (.tmp 74)⟩]))
  (.ops [⟨(some 59), none, .move (.tmp 13)⟩, ⟨(some 60), none, .bin .add none (.tmp 59) (.const (.int .i64 1))⟩, ⟨(some 13), none, .move (.tmp 60)⟩])))
def lp172_2 : IC := (.seq (.seq (.ops [⟨(some 83), none, .move (.tmp 14)⟩, ⟨(some 84), none, .move (.tmp 15)⟩, ⟨(some 85), none, .bin .lss none (.tmp 83) (.tmp 84)⟩])
  (.cond (.tmp 85) .skip
  (.exit 4)))
  (.block 5 (.seq (.ops [⟨(some 86), none, .move (.tmp 14)⟩, ⟨(some 87), none, .move (.tmp 15)⟩, ⟨(some 88), none, .bin .add none (.tmp 86) (.tmp 87)⟩, ⟨(some 89), none, .conv .u64 (.tmp 88)⟩, ⟨(some 90), none, .bin .shr none (.tmp 89) (.const (.int .u64 1))⟩, ⟨(some 91), none, .conv .i64 (.tmp 90)⟩, ⟨(some 16), none, .move (.tmp 91)⟩])
    (.seq (.ops [⟨(some 92), none, .move (.tmp 4)⟩, ⟨(some 93), none, .move (.tmp 0)⟩, ⟨(some 94), none, .move (.tmp 2)⟩, ⟨(some 95), none, .indexS 1 (.tmp 93) (.tmp 94)⟩, ⟨(some 96), none, .load 1 false (.tmp 95)⟩, ⟨(some 97), none, .move (.tmp 0)⟩, ⟨(some 98), none, .move (.tmp 16)⟩, ⟨(some 99), none, .indexS 1 (.tmp 97) (.tmp 98)⟩, ⟨(some 100), none, .load 1 false (.tmp 99)⟩, ⟨(some 101), none, .callv false (.tmp 92) [(.tmp 96), (.tmp 100)]⟩, ⟨(some 102), none, .bin .lss none (.tmp 101) (.const (.int .i64 0))⟩, ⟨(some 103), none, .not (.tmp 102)⟩])
    (.cond (.tmp 103) (.ops [⟨(some 104), none, .move (.tmp 16)⟩, ⟨(some 105), none, .bin .add none (.tmp 104) (.const (.int .i64 1))⟩, ⟨(some 14), none, .move (.tmp 105)⟩])
    (.ops [⟨(some 106), none, .move (.tmp 16)⟩, ⟨(some 15), none, .move (.tmp 106)⟩]))))))
def lp172_3 : IC := (.seq (.seq (.ops [⟨(some 108), none, .move (.tmp 17)⟩, ⟨(some 109), none, .move (.tmp 14)⟩, ⟨(some 110), none, .bin .gtr none (.tmp 108) (.tmp 109)⟩])
  (.cond (.tmp 110) .skip
  (.exit 6)))
  (.seq (.block 7 (.ops [⟨(some 113), none, .move (.tmp 0)⟩, ⟨(some 114), none, .move (.tmp 17)⟩, ⟨(some 115), none, .move (.tmp 0)⟩, ⟨(some 116), none, .move (.tmp 17)⟩, ⟨(some 117), none, .bin .sub none (.tmp 116) (.const (.int .i64 1))⟩, ⟨(some 118), none, .move (.tmp 0)⟩, ⟨(some 119), none, .move (.tmp 17)⟩, ⟨(some 120), none, .bin .sub none (.tmp 119) (.const (.int .i64 1))⟩, ⟨(some 121), none, .indexS 1 (.tmp 118) (.tmp 120)⟩, ⟨(some 122), none, .load 1 false (.tmp 121)⟩, ⟨(some 123), none, .move (.tmp 0)⟩, ⟨(some 124), none, .move (.tmp 17)⟩, ⟨(some 125), none, .indexS 1 (.tmp 123) (.tmp 124)⟩, ⟨(some 126), none, .load 1 false (.tmp 125)⟩, ⟨(some 127), none, .indexS 1 (.tmp 113) (.tmp 114)⟩, ⟨none, none, .store 1 (.tmp 127) (.tmp 122)⟩, ⟨(some 128), none, .indexS 1 (.tmp 115) (.tmp 117)⟩, ⟨none, none, .store 1 (.tmp 128) (.tmp 126)⟩]))
  (.ops [⟨(some 111), none, .move (.tmp 17)⟩, ⟨(some 112), none, .bin .sub none (.tmp 111) (.const (.int .i64 1))⟩, ⟨(some 17), none, .move (.tmp 112)⟩])))
def lp172_4 : IC := (.seq (.seq (.ops [⟨(some 149), none, .move (.tmp 20)⟩, ⟨(some 150), none, .move (.tmp 21)⟩, ⟨(some 151), none, .bin .lss none (.tmp 149) (.tmp 150)⟩])
  (.cond (.tmp 151) .skip
  (.exit 8)))
  (.block 9 (.seq (.ops [⟨(some 152), none, .move (.tmp 20)⟩, ⟨(some 153), none, .move (.tmp 21)⟩, ⟨(some 154), none, .bin .add none (.tmp 152) (.tmp 153)⟩, ⟨(some 155), none, .conv .u64 (.tmp 154)⟩, ⟨(some 156), none, .bin .shr none (.tmp 155) (.const (.int .u64 1))⟩, ⟨(some 157), none, .conv .i64 (.tmp 156)⟩, ⟨(some 23), none, .move (.tmp 157)⟩])
    (.seq (.ops [⟨(some 158), none, .move (.tmp 4)⟩, ⟨(some 159), none, .move (.tmp 0)⟩, ⟨(some 160), none, .move (.tmp 22)⟩, ⟨(some 161), none, .move (.tmp 23)⟩, ⟨(some 162), none, .bin .sub none (.tmp 160) (.tmp 161)⟩, ⟨(some 163), none, .indexS 1 (.tmp 159) (.tmp 162)⟩, ⟨(some 164), none, .load 1 false (.tmp 163)⟩, ⟨(some 165), none, .move (.tmp 0)⟩, ⟨(some 166), none, .move (.tmp 23)⟩, ⟨(some 167), none, .indexS 1 (.tmp 165) (.tmp 166)⟩, ⟨(some 168), none, .load 1 false (.tmp 167)⟩, ⟨(some 169), none, .callv false (.tmp 158) [(.tmp 164), (.tmp 168)]⟩, ⟨(some 170), none, .bin .lss none (.tmp 169) (.const (.int .i64 0))⟩, ⟨(some 171), none, .not (.tmp 170)⟩])
    (.cond (.tmp 171) (.ops [⟨(some 172), none, .move (.tmp 23)⟩, ⟨(some 173), none, .bin .add none (.tmp 172) (.const (.int .i64 1))⟩, ⟨(some 20), none, .move (.tmp 173)⟩])
    (.ops [⟨(some 174), none, .move (.tmp 23)⟩, ⟨(some 21), none, .move (.tmp 174)⟩]))))))
def ir172 : IF := ⟨(.seq (.seq (.ops [⟨(some 25), none, .move (.tmp 2)⟩, ⟨(some 26), none, .move (.tmp 1)⟩, ⟨(some 27), none, .bin .sub none (.tmp 25) (.tmp 26)⟩, ⟨(some 28), none, .bin .eql none (.tmp 27) (.const (.int .i64 1))⟩])
  (.cond (.tmp 28) (.seq (.ops [⟨(some 29), none, .move (.tmp 2)⟩, ⟨(some 10), none, .move (.tmp 29)⟩])
    (.seq (.ops [⟨(some 30), none, .move (.tmp 3)⟩, ⟨(some 11), none, .move (.tmp 30)⟩])
    (.seq (.block 0 (.loop false [0, 1, 4, 10, 11] lp172_0))
    (.seq (.seq (.ops [⟨(some 54), none, .move (.tmp 1)⟩, ⟨(some 13), none, .move (.tmp 54)⟩])
    (.block 2 (.loop false [0, 10, 13] lp172_1)))
    .ret))))
  .skip))
  (.seq (.seq (.ops [⟨(some 77), none, .move (.tmp 3)⟩, ⟨(some 78), none, .move (.tmp 2)⟩, ⟨(some 79), none, .bin .sub none (.tmp 77) (.tmp 78)⟩, ⟨(some 80), none, .bin .eql none (.tmp 79) (.const (.int .i64 1))⟩])
  (.cond (.tmp 80) (.seq (.ops [⟨(some 81), none, .move (.tmp 1)⟩, ⟨(some 14), none, .move (.tmp 81)⟩])
    (.seq (.ops [⟨(some 82), none, .move (.tmp 2)⟩, ⟨(some 15), none, .move (.tmp 82)⟩])
    (.seq (.block 4 (.loop false [0, 2, 4, 14, 15] lp172_2))
    (.seq (.seq (.ops [⟨(some 107), none, .move (.tmp 2)⟩, ⟨(some 17), none, .move (.tmp 107)⟩])
    (.block 6 (.loop false [0, 14, 17] lp172_3)))
    .ret))))
  .skip))
  (.seq (.ops [⟨(some 129), none, .move (.tmp 1)⟩, ⟨(some 130), none, .move (.tmp 3)⟩, ⟨(some 131), none, .bin .add none (.tmp 129) (.tmp 130)⟩, ⟨(some 132), none, .conv .u64 (.tmp 131)⟩, ⟨(some 133), none, .bin .shr none (.tmp 132) (.const (.int .u64 1))⟩, ⟨(some 134), none, .conv .i64 (.tmp 133)⟩, ⟨(some 18), none, .move (.tmp 134)⟩])
  (.seq (.ops [⟨(some 135), none, .move (.tmp 18)⟩, ⟨(some 136), none, .move (.tmp 2)⟩, ⟨(some 137), none, .bin .add none (.tmp 135) (.tmp 136)⟩, ⟨(some 19), none, .move (.tmp 137)⟩])
  (.seq (.ops [⟨(some 20), none, .move (.const (.int .i64 0))⟩, ⟨(some 21), none, .move (.const (.int .i64 0))⟩])
  (.seq (.seq (.ops [⟨(some 138), none, .move (.tmp 2)⟩, ⟨(some 139), none, .move (.tmp 18)⟩, ⟨(some 140), none, .bin .gtr none (.tmp 138) (.tmp 139)⟩])
  (.cond (.tmp 140) (.seq (.ops [⟨(some 141), none, .move (.tmp 19)⟩, ⟨(some 142), none, .move (.tmp 3)⟩, ⟨(some 143), none, .bin .sub none (.tmp 141) (.tmp 142)⟩, ⟨(some 20), none, .move (.tmp 143)⟩])
    (.ops [⟨(some 144), none, .move (.tmp 18)⟩, ⟨(some 21), none, .move (.tmp 144)⟩]))
  (.seq (.ops [⟨(some 145), none, .move (.tmp 1)⟩, ⟨(some 20), none, .move (.tmp 145)⟩])
    (.ops [⟨(some 146), none, .move (.tmp 2)⟩, ⟨(some 21), none, .move (.tmp 146)⟩]))))
  (.seq (.ops [⟨(some 147), none, .move (.tmp 19)⟩, ⟨(some 148), none, .bin .sub none (.tmp 147) (.const (.int .i64 1))⟩, ⟨(some 22), none, .move (.tmp 148)⟩])
  (.seq (.block 8 (.loop false [0, 1, 2, 3, 4, 18, 19, 20, 21, 22] lp172_4))
  (.seq (.ops [⟨(some 175), none, .move (.tmp 19)⟩, ⟨(some 176), none, .move (.tmp 20)⟩, ⟨(some 177), none, .bin .sub none (.tmp 175) (.tmp 176)⟩, ⟨(some 24), none, .move (.tmp 177)⟩])
  (.seq (.seq (.ops [⟨(some 178), none, .move (.tmp 20)⟩, ⟨(some 179), none, .move (.tmp 2)⟩, ⟨(some 180), none, .bin .lss none (.tmp 178) (.tmp 179)⟩, ⟨(some 181), none, .move (.tmp 180)⟩, ⟨(some 182), (some (181, true)), .move (.tmp 2)⟩, ⟨(some 183), (some (181, true)), .move (.tmp 24)⟩, ⟨(some 184), (some (181, true)), .bin .lss none (.tmp 182) (.tmp 183)⟩, ⟨(some 185), none, .pick (.tmp 181) (.tmp 184) (.const (.bool false))⟩])
  (.cond (.tmp 185) (.ops [⟨(some 186), none, .move (.tmp 0)⟩, ⟨(some 187), none, .move (.tmp 20)⟩, ⟨(some 188), none, .move (.tmp 2)⟩, ⟨(some 189), none, .move (.tmp 24)⟩, ⟨(some 190), none, .move (.tmp 4)⟩, ⟨(some 191), none, .call false 193 [(.tmp 186), (.tmp 187), (.tmp 188), (.tmp 189), (.tmp 190)]⟩])
  .skip))
  (.seq (.seq (.ops [⟨(some 192), none, .move (.tmp 1)⟩, ⟨(some 193), none, .move (.tmp 20)⟩, ⟨(some 194), none, .bin .lss none (.tmp 192) (.tmp 193)⟩, ⟨(some 195), none, .move (.tmp 194)⟩, ⟨(some 196), (some (195, true)), .move (.tmp 20)⟩, ⟨(some 197), (some (195, true)), .move (.tmp 18)⟩, ⟨(some 198), (some (195, true)), .bin .lss none (.tmp 196) (.tmp 197)⟩, ⟨(some 199), none, .pick (.tmp 195) (.tmp 198) (.const (.bool false))⟩])
  (.cond (.tmp 199) (.ops [⟨(some 200), none, .move (.tmp 0)⟩, ⟨(some 201), none, .move (.tmp 1)⟩, ⟨(some 202), none, .move (.tmp 20)⟩, ⟨(some 203), none, .move (.tmp 18)⟩, ⟨(some 204), none, .move (.tmp 4)⟩, ⟨(some 205), none, .call false 172 [(.tmp 200), (.tmp 201), (.tmp 202), (.tmp 203), (.tmp 204)]⟩])
  .skip))
  (.seq (.ops [⟨(some 206), none, .move (.tmp 18)⟩, ⟨(some 207), none, .move (.tmp 24)⟩, ⟨(some 208), none, .bin .lss none (.tmp 206) (.tmp 207)⟩, ⟨(some 209), none, .move (.tmp 208)⟩, ⟨(some 210), (some (209, true)), .move (.tmp 24)⟩, ⟨(some 211), (some (209, true)), .move (.tmp 3)⟩, ⟨(some 212), (some (209, true)), .bin .lss none (.tmp 210) (.tmp 211)⟩, ⟨(some 213), none, .pick (.tmp 209) (.tmp 212) (.const (.bool false))⟩])
  (.cond (.tmp 213) (.ops [⟨(some 214), none, .move (.tmp 0)⟩, ⟨(some 215), none, .move (.tmp 18)⟩, ⟨(some 216), none, .move (.tmp 24)⟩, ⟨(some 217), none, .move (.tmp 3)⟩, ⟨(some 218), none, .move (.tmp 4)⟩, ⟨(some 219), none, .call false 172 [(.tmp 214), (.tmp 215), (.tmp 216), (.tmp 217), (.tmp 218)]⟩])
  .skip))))))))))))), []⟩
/-- slices.rotateCmpFunc[int] -/
def lp193_0 : IC := (.seq (.seq (.ops [⟨(some 18), none, .move (.tmp 10)⟩, ⟨(some 19), none, .move (.tmp 11)⟩, ⟨(some 20), none, .bin .neq none (.tmp 18) (.tmp 19)⟩])
  (.cond (.tmp 20) .skip
  (.exit 0)))
  (.block 1 (.seq (.ops [⟨(some 21), none, .move (.tmp 10)⟩, ⟨(some 22), none, .move (.tmp 11)⟩, ⟨(some 23), none, .bin .gtr none (.tmp 21) (.tmp 22)⟩])
    (.cond (.tmp 23) (.seq (.ops [⟨(some 24), none, .move (.tmp 0)⟩, ⟨(some 25), none, .move (.tmp 2)⟩, ⟨(some 26), none, .move (.tmp 10)⟩, ⟨(some 27), none, .bin .sub none (.tmp 25) (.tmp 26)⟩, ⟨(some 28), none, .move (.tmp 2)⟩, ⟨(some 29), none, .move (.tmp 11)⟩, ⟨(some 30), none, .move (.tmp 4)⟩, ⟨(some 31), none, .call false 200 [(.tmp 24), (.tmp 27), (.tmp 28), (.tmp 29), (.tmp 30)]⟩])
      (.ops [⟨(some 32), none, .move (.tmp 10)⟩, ⟨(some 33), none, .move (.tmp 11)⟩, ⟨(some 34), none, .bin .sub none (.tmp 32) (.tmp 33)⟩, ⟨(some 10), none, .move (.tmp 34)⟩]))
    (.seq (.ops [⟨(some 35), none, .move (.tmp 0)⟩, ⟨(some 36), none, .move (.tmp 2)⟩, ⟨(some 37), none, .move (.tmp 10)⟩, ⟨(some 38), none, .bin .sub none (.tmp 36) (.tmp 37)⟩, ⟨(some 39), none, .move (.tmp 2)⟩, ⟨(some 40), none, .move (.tmp 11)⟩, ⟨(some 41), none, .bin .add none (.tmp 39) (.tmp 40)⟩, ⟨(some 42), none, .move (.tmp 10)⟩, ⟨(some 43), none, .bin .sub none (.tmp 41) (.tmp 42)⟩, ⟨(some 44), none, .move (.tmp 10)⟩, ⟨(some 45), none, .move (.tmp 4)⟩, ⟨(some 46), none, .call false 200 [(.tmp 35), (.tmp 38), (.tmp 43), (.tmp 44), (.tmp 45)]⟩])
      (.ops [⟨(some 47), none, .move (.tmp 11)⟩, ⟨(some 48), none, .move (.tmp 10)⟩, ⟨(some 49), none, .bin .sub none (.tmp 47) (.tmp 48)⟩, ⟨(some 11), none, .move (.tmp 49)⟩]))))))
def ir193 : IF := ⟨(.seq (.ops [⟨(some 12), none, .move (.tmp 2)⟩, ⟨(some 13), none, .move (.tmp 1)⟩, ⟨(some 14), none, .bin .sub none (.tmp 12) (.tmp 13)⟩, ⟨(some 10), none, .move (.tmp 14)⟩])
  (.seq (.ops [⟨(some 15), none, .move (.tmp 3)⟩, ⟨(some 16), none, .move (.tmp 2)⟩, ⟨(some 17), none, .bin .sub none (.tmp 15) (.tmp 16)⟩, ⟨(some 11), none, .move (.tmp 17)⟩])
  (.seq (.block 0 (.loop false [0, 2, 4, 10, 11] lp193_0))
  (.ops [⟨(some 50), none, .move (.tmp 0)⟩, ⟨(some 51), none, .move (.tmp 2)⟩, ⟨(some 52), none, .move (.tmp 10)⟩, ⟨(some 53), none, .bin .sub none (.tmp 51) (.tmp 52)⟩, ⟨(some 54), none, .move (.tmp 2)⟩, ⟨(some 55), none, .move (.tmp 10)⟩, ⟨(some 56), none, .move (.tmp 4)⟩, ⟨(some 57), none, .call false 200 [(.tmp 50), (.tmp 53), (.tmp 54), (.tmp 55), (.tmp 56)]⟩])))), []⟩
/-- slices.swapRangeCmpFunc[int] -/
def lp200_0 : IC := (.seq (.seq (.ops [⟨(some 11), none, .move (.tmp 10)⟩, ⟨(some 12), none, .move (.tmp 3)⟩, ⟨(some 13), none, .bin .lss none (.tmp 11) (.tmp 12)⟩])
  (.cond (.tmp 13) .skip
  (.exit 0)))
  (.seq (.block 1 (.ops [⟨(some 16), none, .move (.tmp 0)⟩, ⟨(some 17), none, .move (.tmp 1)⟩, ⟨(some 18), none, .move (.tmp 10)⟩, ⟨(some 19), none, .bin .add none (.tmp 17) (.tmp 18)⟩, ⟨(some 20), none, .move (.tmp 0)⟩, ⟨(some 21), none, .move (.tmp 2)⟩, ⟨(some 22), none, .move (.tmp 10)⟩, ⟨(some 23), none, .bin .add none (.tmp 21) (.tmp 22)⟩, ⟨(some 24), none, .move (.tmp 0)⟩, ⟨(some 25), none, .move (.tmp 2)⟩, ⟨(some 26), none, .move (.tmp 10)⟩, ⟨(some 27), none, .bin .add none (.tmp 25) (.tmp 26)⟩, ⟨(some 28), none, .indexS 1 (.tmp 24) (.tmp 27)⟩, ⟨(some 29), none, .load 1 false (.tmp 28)⟩, ⟨(some 30), none, .move (.tmp 0)⟩, ⟨(some 31), none, .move (.tmp 1)⟩, ⟨(some 32), none, .move (.tmp 10)⟩, ⟨(some 33), none, .bin .add none (.tmp 31) (.tmp 32)⟩, ⟨(some 34), none, .indexS 1 (.tmp 30) (.tmp 33)⟩, ⟨(some 35), none, .load 1 false (.tmp 34)⟩, ⟨(some 36), none, .indexS 1 (.tmp 16) (.tmp 19)⟩, ⟨none, none, .store 1 (.tmp 36) (.tmp 29)⟩, ⟨(some 37), none, .indexS 1 (.tmp 20) (.tmp 23)⟩, ⟨none, none, .store 1 (.tmp 37) (.tmp 35)⟩]))
  (.ops [⟨(some 14), none, .move (.tmp 10)⟩, ⟨(some 15), none, .bin .add none (.tmp 14) (.const (.int .i64 1))⟩, ⟨(some 10), none, .move (.tmp 15)⟩])))
def ir200 : IF := ⟨(.seq (.ops [⟨(some 10), none, .move (.const (.int .i64 0))⟩])
  (.block 0 (.loop false [0, 1, 2, 3, 10] lp200_0))), []⟩
end Go.Proofs.YtdnmhlfjafjkbaaGreatDoor.Vm
