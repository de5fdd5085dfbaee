/- What stands here: functions of this program in the form that the evaluator runs. No condition: a later text proves that they are what the program holds. -/
import Derived.Test.YtiifibgadipalaaIr2
namespace Go.Proofs.Ytiifibgadipalaa.Vm
open Go Go.Ev
set_option maxRecDepth 100000
/-- slices.pdqsortCmpFunc[[2]int] -/
def ir90 : IF := ⟨(.seq (.ops [⟨(some 10), none, .move (.const (.bool true))⟩])
  (.seq (.ops [⟨(some 11), none, .move (.const (.bool true))⟩])
  (.block 0 (.loop false [0, 1, 2, 3, 4, 10, 11] (.block 1 (.seq (.ops [⟨(some 21), none, .move (.tmp 2)⟩, ⟨(some 22), none, .move (.tmp 1)⟩, ⟨(some 23), none, .bin .sub none (.tmp 21) (.tmp 22)⟩, ⟨(some 12), none, .move (.tmp 23)⟩])
        (.seq (.seq (.ops [⟨(some 24), none, .move (.tmp 12)⟩, ⟨(some 25), none, .bin .leq none (.tmp 24) (.const (.int .i64 12))⟩])
        (.cond (.tmp 25) (.seq (.ops [⟨(some 26), none, .move (.tmp 0)⟩, ⟨(some 27), none, .move (.tmp 1)⟩, ⟨(some 28), none, .move (.tmp 2)⟩, ⟨(some 29), none, .move (.tmp 4)⟩, ⟨(some 30), none, .call false 96 [(.tmp 26), (.tmp 27), (.tmp 28), (.tmp 29)]⟩])
          .ret)
        .skip))
        (.seq (.seq (.ops [⟨(some 31), none, .move (.tmp 3)⟩, ⟨(some 32), none, .bin .eql none (.tmp 31) (.const (.int .i64 0))⟩])
        (.cond (.tmp 32) (.seq (.ops [⟨(some 33), none, .move (.tmp 0)⟩, ⟨(some 34), none, .move (.tmp 1)⟩, ⟨(some 35), none, .move (.tmp 2)⟩, ⟨(some 36), none, .move (.tmp 4)⟩, ⟨(some 37), none, .call false 97 [(.tmp 33), (.tmp 34), (.tmp 35), (.tmp 36)]⟩])
          .ret)
        .skip))
        (.seq (.seq (.ops [⟨(some 38), none, .move (.tmp 10)⟩, ⟨(some 39), none, .not (.tmp 38)⟩])
        (.cond (.tmp 39) (.seq (.ops [⟨(some 40), none, .move (.tmp 0)⟩, ⟨(some 41), none, .move (.tmp 1)⟩, ⟨(some 42), none, .move (.tmp 2)⟩, ⟨(some 43), none, .move (.tmp 4)⟩, ⟨(some 44), none, .call false 98 [(.tmp 40), (.tmp 41), (.tmp 42), (.tmp 43)]⟩])
          (.ops [⟨(some 45), none, .move (.tmp 3)⟩, ⟨(some 46), none, .bin .sub none (.tmp 45) (.const (.int .i64 1))⟩, ⟨(some 3), none, .move (.tmp 46)⟩]))
        .skip))
        (.seq (.ops [⟨(some 48), none, .move (.tmp 0)⟩, ⟨(some 49), none, .move (.tmp 1)⟩, ⟨(some 50), none, .move (.tmp 2)⟩, ⟨(some 51), none, .move (.tmp 4)⟩, ⟨(some 52), none, .call false 99 [(.tmp 48), (.tmp 49), (.tmp 50), (.tmp 51)]⟩, ⟨(some 47), none, .move (.tmp 52)⟩, ⟨(some 53), none, .extract 0 (.tmp 47)⟩, ⟨(some 54), none, .extract 1 (.tmp 47)⟩, ⟨(some 13), none, .move (.tmp 53)⟩, ⟨(some 14), none, .move (.tmp 54)⟩])
        (.seq (.seq (.ops [⟨(some 55), none, .move (.tmp 14)⟩, ⟨(some 56), none, .bin .eql none (.tmp 55) (.const (.int .i64 2))⟩])
        (.cond (.tmp 56) (.seq (.ops [⟨(some 57), none, .move (.tmp 0)⟩, ⟨(some 58), none, .move (.tmp 1)⟩, ⟨(some 59), none, .move (.tmp 2)⟩, ⟨(some 60), none, .move (.tmp 4)⟩, ⟨(some 61), none, .call false 100 [(.tmp 57), (.tmp 58), (.tmp 59), (.tmp 60)]⟩])
          (.seq (.ops [⟨(some 62), none, .move (.tmp 2)⟩, ⟨(some 63), none, .bin .sub none (.tmp 62) (.const (.int .i64 1))⟩, ⟨(some 64), none, .move (.tmp 13)⟩, ⟨(some 65), none, .move (.tmp 1)⟩, ⟨(some 66), none, .bin .sub none (.tmp 64) (.tmp 65)⟩, ⟨(some 67), none, .bin .sub none (.tmp 63) (.tmp 66)⟩, ⟨(some 13), none, .move (.tmp 67)⟩])
          (.ops [⟨(some 14), none, .move (.const (.int .i64 1))⟩])))
        .skip))
        (.seq (.seq (.ops [⟨(some 68), none, .move (.tmp 10)⟩, ⟨(some 69), none, .move (.tmp 68)⟩, ⟨(some 70), (some (69, true)), .move (.tmp 11)⟩, ⟨(some 71), none, .pick (.tmp 69) (.tmp 70) (.const (.bool false))⟩, ⟨(some 72), none, .move (.tmp 71)⟩, ⟨(some 73), (some (72, true)), .move (.tmp 14)⟩, ⟨(some 74), (some (72, true)), .bin .eql none (.tmp 73) (.const (.int .i64 1))⟩, ⟨(some 75), none, .pick (.tmp 72) (.tmp 74) (.const (.bool false))⟩])
        (.cond (.tmp 75) (.seq (.ops [⟨(some 76), none, .move (.tmp 0)⟩, ⟨(some 77), none, .move (.tmp 1)⟩, ⟨(some 78), none, .move (.tmp 2)⟩, ⟨(some 79), none, .move (.tmp 4)⟩, ⟨(some 80), none, .call false 101 [(.tmp 76), (.tmp 77), (.tmp 78), (.tmp 79)]⟩])
          (.cond (.tmp 80) .ret
          .skip))
        .skip))
        (.seq (.seq (.ops [⟨(some 81), none, .move (.tmp 1)⟩, ⟨(some 82), none, .bin .gtr none (.tmp 81) (.const (.int .i64 0))⟩, ⟨(some 83), none, .move (.tmp 82)⟩, ⟨(some 84), (some (83, true)), .move (.tmp 4)⟩, ⟨(some 85), (some (83, true)), .move (.tmp 0)⟩, ⟨(some 86), (some (83, true)), .move (.tmp 1)⟩, ⟨(some 87), (some (83, true)), .bin .sub none (.tmp 86) (.const (.int .i64 1))⟩, ⟨(some 88), (some (83, true)), .indexS 2 (.tmp 85) (.tmp 87)⟩, ⟨(some 89), (some (83, true)), .load 2 true (.tmp 88)⟩, ⟨(some 90), (some (83, true)), .move (.tmp 0)⟩, ⟨(some 91), (some (83, true)), .move (.tmp 13)⟩, ⟨(some 92), (some (83, true)), .indexS 2 (.tmp 90) (.tmp 91)⟩, ⟨(some 93), (some (83, true)), .load 2 true (.tmp 92)⟩, ⟨(some 94), (some (83, true)), .callv false (.tmp 84) [(.tmp 89), (.tmp 93)]⟩, ⟨(some 95), (some (83, true)), .bin .lss none (.tmp 94) (.const (.int .i64 0))⟩, ⟨(some 96), (some (83, true)), .not (.tmp 95)⟩, ⟨(some 97), none, .pick (.tmp 83) (.tmp 96) (.const (.bool false))⟩])
        (.cond (.tmp 97) (.seq (.ops [⟨(some 98), none, .move (.tmp 0)⟩, ⟨(some 99), none, .move (.tmp 1)⟩, ⟨(some 100), none, .move (.tmp 2)⟩, ⟨(some 101), none, .move (.tmp 13)⟩, ⟨(some 102), none, .move (.tmp 4)⟩, ⟨(some 103), none, .call false 102 [(.tmp 98), (.tmp 99), (.tmp 100), (.tmp 101), (.tmp 102)]⟩, ⟨(some 15), none, .move (.tmp 103)⟩])
          (.seq (.ops [⟨(some 104), none, .move (.tmp 15)⟩, ⟨(some 1), none, .move (.tmp 104)⟩])
          (.exit 1)))
        .skip))
        (.seq (.ops [⟨(some 106), none, .move (.tmp 0)⟩, ⟨(some 107), none, .move (.tmp 1)⟩, ⟨(some 108), none, .move (.tmp 2)⟩, ⟨(some 109), none, .move (.tmp 13)⟩, ⟨(some 110), none, .move (.tmp 4)⟩, ⟨(some 111), none, .call false 103 [(.tmp 106), (.tmp 107), (.tmp 108), (.tmp 109), (.tmp 110)]⟩, ⟨(some 105), none, .move (.tmp 111)⟩, ⟨(some 112), none, .extract 0 (.tmp 105)⟩, ⟨(some 113), none, .extract 1 (.tmp 105)⟩, ⟨(some 16), none, .move (.tmp 112)⟩, ⟨(some 17), none, .move (.tmp 113)⟩])
        (.seq (.ops [⟨(some 114), none, .move (.tmp 17)⟩, ⟨(some 11), none, .move (.tmp 114)⟩])
        (.seq (.ops [⟨(some 115), none, .move (.tmp 16)⟩, ⟨(some 116), none, .move (.tmp 1)⟩, ⟨(some 117), none, .bin .sub none (.tmp 115) (.tmp 116)⟩, ⟨(some 118), none, .move (.tmp 2)⟩, ⟨(some 119), none, .move (.tmp 16)⟩, ⟨(some 120), none, .bin .sub none (.tmp 118) (.tmp 119)⟩, ⟨(some 18), none, .move (.tmp 117)⟩, ⟨(some 19), none, .move (.tmp 120)⟩])
        (.seq (.ops [⟨(some 121), none, .move (.tmp 12)⟩, ⟨(some 122), none, .bin .quo none (.tmp 121) (.const (.int .i64 8))⟩, ⟨(some 20), none, .move (.tmp 122)⟩])
        (.seq (.ops [⟨(some 123), none, .move (.tmp 18)⟩, ⟨(some 124), none, .move (.tmp 19)⟩, ⟨(some 125), none, .bin .lss none (.tmp 123) (.tmp 124)⟩])
        (.cond (.tmp 125) (.seq (.ops [⟨(some 126), none, .move (.tmp 18)⟩, ⟨(some 127), none, .move (.tmp 20)⟩, ⟨(some 128), none, .bin .geq none (.tmp 126) (.tmp 127)⟩, ⟨(some 10), none, .move (.tmp 128)⟩])
          (.seq (.ops [⟨(some 129), none, .move (.tmp 0)⟩, ⟨(some 130), none, .move (.tmp 1)⟩, ⟨(some 131), none, .move (.tmp 16)⟩, ⟨(some 132), none, .move (.tmp 3)⟩, ⟨(some 133), none, .move (.tmp 4)⟩, ⟨(some 134), none, .call false 90 [(.tmp 129), (.tmp 130), (.tmp 131), (.tmp 132), (.tmp 133)]⟩])
          (.ops [⟨(some 135), none, .move (.tmp 16)⟩, ⟨(some 136), none, .bin .add none (.tmp 135) (.const (.int .i64 1))⟩, ⟨(some 1), none, .move (.tmp 136)⟩])))
        (.seq (.ops [⟨(some 137), none, .move (.tmp 19)⟩, ⟨(some 138), none, .move (.tmp 20)⟩, ⟨(some 139), none, .bin .geq none (.tmp 137) (.tmp 138)⟩, ⟨(some 10), none, .move (.tmp 139)⟩])
          (.seq (.ops [⟨(some 140), none, .move (.tmp 0)⟩, ⟨(some 141), none, .move (.tmp 16)⟩, ⟨(some 142), none, .bin .add none (.tmp 141) (.const (.int .i64 1))⟩, ⟨(some 143), none, .move (.tmp 2)⟩, ⟨(some 144), none, .move (.tmp 3)⟩, ⟨(some 145), none, .move (.tmp 4)⟩, ⟨(some 146), none, .call false 90 [(.tmp 140), (.tmp 142), (.tmp 143), (.tmp 144), (.tmp 145)]⟩])
          (.ops [⟨(some 147), none, .move (.tmp 16)⟩, ⟨(some 2), none, .move (.tmp 147)⟩])))))))))))))))))))))), []⟩
/-- math/bits.Len -/
def ir91 : IF := ⟨(.seq (.ops [⟨(some 2), none, .move (.const (.int .i64 0))⟩])
  (.seq (.cond (.const (.bool false)) (.seq (.ops [⟨(some 3), none, .move (.tmp 0)⟩, ⟨(some 4), none, .conv .u32 (.tmp 3)⟩, ⟨(some 5), none, .call true 104 [(.tmp 4)]⟩, ⟨(some 2), none, .move (.tmp 5)⟩])
    .ret)
  .skip)
  (.seq (.ops [⟨(some 6), none, .move (.tmp 0)⟩, ⟨(some 7), none, .call true 105 [(.tmp 6)]⟩, ⟨(some 2), none, .move (.tmp 7)⟩])
  .ret))), [(2, none)]⟩
/-- cmp.Compare[int] -/
def ir92 : IF := ⟨(.seq (.ops [⟨(some 4), none, .move (.const (.int .i64 0))⟩])
  (.seq (.ops [⟨(some 7), none, .move (.tmp 0)⟩, ⟨(some 8), none, .call true 106 [(.tmp 7)]⟩, ⟨(some 5), none, .move (.tmp 8)⟩])
  (.seq (.ops [⟨(some 9), none, .move (.tmp 1)⟩, ⟨(some 10), none, .call true 106 [(.tmp 9)]⟩, ⟨(some 6), none, .move (.tmp 10)⟩])
  (.seq (.seq (.ops [⟨(some 11), none, .move (.tmp 5)⟩])
  (.cond (.tmp 11) (.seq (.seq (.ops [⟨(some 12), none, .move (.tmp 6)⟩])
    (.cond (.tmp 12) (.seq (.ops [⟨(some 4), none, .move (.const (.int .i64 0))⟩])
      .ret)
    .skip))
    (.seq (.ops [⟨(some 4), none, .move (.const (.int .i64 (-1)))⟩])
    .ret))
  .skip))
  (.seq (.seq (.ops [⟨(some 13), none, .move (.tmp 6)⟩])
  (.cond (.tmp 13) (.seq (.ops [⟨(some 4), none, .move (.const (.int .i64 1))⟩])
    .ret)
  .skip))
  (.seq (.seq (.ops [⟨(some 14), none, .move (.tmp 0)⟩, ⟨(some 15), none, .move (.tmp 1)⟩, ⟨(some 16), none, .bin .lss none (.tmp 14) (.tmp 15)⟩])
  (.cond (.tmp 16) (.seq (.ops [⟨(some 4), none, .move (.const (.int .i64 (-1)))⟩])
    .ret)
  .skip))
  (.seq (.seq (.ops [⟨(some 17), none, .move (.tmp 0)⟩, ⟨(some 18), none, .move (.tmp 1)⟩, ⟨(some 19), none, .bin .gtr none (.tmp 17) (.tmp 18)⟩])
  (.cond (.tmp 19) (.seq (.ops [⟨(some 4), none, .move (.const (.int .i64 1))⟩])
    .ret)
  .skip))
  (.seq (.ops [⟨(some 4), none, .move (.const (.int .i64 0))⟩])
  .ret)))))))), [(4, none)]⟩
/-- (headword/volume.Book).over$1 -/
def ir93 : IF := ⟨(.seq (.ops [⟨(some 3), none, .move (.const (.bool false))⟩])
  (.seq (.ops [⟨(some 4), none, .move (.tmp 0)⟩, ⟨(some 5), none, .fieldAddr 1 (.tmp 1)⟩, ⟨(some 6), none, .load 1 false (.tmp 5)⟩, ⟨(some 7), none, .bin .gtr none (.tmp 4) (.tmp 6)⟩, ⟨(some 3), none, .move (.tmp 7)⟩])
  .ret)), [(3, none)]⟩
/-- cmp.Less[int] -/
def ir94 : IF := ⟨(.seq (.ops [⟨(some 4), none, .move (.const (.bool false))⟩])
  (.seq (.ops [⟨(some 5), none, .move (.tmp 0)⟩, ⟨(some 6), none, .call true 106 [(.tmp 5)]⟩, ⟨(some 7), none, .move (.tmp 6)⟩, ⟨(some 8), (some (7, true)), .move (.tmp 1)⟩, ⟨(some 9), (some (7, true)), .call true 106 [(.tmp 8)]⟩, ⟨(some 10), (some (7, true)), .not (.tmp 9)⟩, ⟨(some 11), none, .pick (.tmp 7) (.tmp 10) (.const (.bool false))⟩, ⟨(some 12), none, .move (.tmp 11)⟩, ⟨(some 13), (some (12, false)), .move (.tmp 0)⟩, ⟨(some 14), (some (12, false)), .move (.tmp 1)⟩, ⟨(some 15), (some (12, false)), .bin .lss none (.tmp 13) (.tmp 14)⟩, ⟨(some 16), none, .pick (.tmp 12) (.const (.bool true)) (.tmp 15)⟩, ⟨(some 4), none, .move (.tmp 16)⟩])
  .ret)), [(4, none)]⟩
/-- slices.isNaN[int] -/
def ir95 : IF := ⟨(.seq (.ops [⟨(some 2), none, .move (.const (.bool false))⟩])
  (.seq (.ops [⟨(some 3), none, .move (.tmp 0)⟩, ⟨(some 4), none, .move (.tmp 0)⟩, ⟨(some 5), none, .bin .neq none (.tmp 3) (.tmp 4)⟩, ⟨(some 2), none, .move (.tmp 5)⟩])
  .ret)), [(2, none)]⟩
/-- slices.insertionSortCmpFunc[[2]int] -/
def ir96 : IF := ⟨(.seq (.ops [⟨(some 10), none, .move (.tmp 1)⟩, ⟨(some 11), none, .bin .add none (.tmp 10) (.const (.int .i64 1))⟩, ⟨(some 8), none, .move (.tmp 11)⟩])
  (.block 0 (.loop false [0, 1, 2, 3, 8] (.seq (.seq (.ops [⟨(some 12), none, .move (.tmp 8)⟩, ⟨(some 13), none, .move (.tmp 2)⟩, ⟨(some 14), none, .bin .lss none (.tmp 12) (.tmp 13)⟩])
      (.cond (.tmp 14) .skip
      (.exit 0)))
      (.seq (.block 1 (.seq (.ops [⟨(some 17), none, .move (.tmp 8)⟩, ⟨(some 9), none, .move (.tmp 17)⟩])
        (.block 2 (.loop false [0, 1, 2, 3, 8, 9] (.seq (.seq (.ops [⟨(some 18), none, .move (.tmp 9)⟩, ⟨(some 19), none, .move (.tmp 1)⟩, ⟨(some 20), none, .bin .gtr none (.tmp 18) (.tmp 19)⟩, ⟨(some 21), none, .move (.tmp 20)⟩, ⟨(some 22), (some (21, true)), .move (.tmp 3)⟩, ⟨(some 23), (some (21, true)), .move (.tmp 0)⟩, ⟨(some 24), (some (21, true)), .move (.tmp 9)⟩, ⟨(some 25), (some (21, true)), .indexS 2 (.tmp 23) (.tmp 24)⟩, ⟨(some 26), (some (21, true)), .load 2 true (.tmp 25)⟩, ⟨(some 27), (some (21, true)), .move (.tmp 0)⟩, ⟨(some 28), (some (21, true)), .move (.tmp 9)⟩, ⟨(some 29), (some (21, true)), .bin .sub none (.tmp 28) (.const (.int .i64 1))⟩, ⟨(some 30), (some (21, true)), .indexS 2 (.tmp 27) (.tmp 29)⟩, ⟨(some 31), (some (21, true)), .load 2 true (.tmp 30)⟩, ⟨(some 32), (some (21, true)), .callv false (.tmp 22) [(.tmp 26), (.tmp 31)]⟩, ⟨(some 33), (some (21, true)), .bin .lss none (.tmp 32) (.const (.int .i64 0))⟩, ⟨(some 34), none, .pick (.tmp 21) (.tmp 33) (.const (.bool false))⟩])
            (.cond (.tmp 34) .skip
            (.exit 2)))
            (.seq (.block 3 (.ops [⟨(some 37), none, .move (.tmp 0)⟩, ⟨(some 38), none, .move (.tmp 9)⟩, ⟨(some 39), none, .move (.tmp 0)⟩, ⟨(some 40), none, .move (.tmp 9)⟩, ⟨(some 41), none, .bin .sub none (.tmp 40) (.const (.int .i64 1))⟩, ⟨(some 42), none, .move (.tmp 0)⟩, ⟨(some 43), none, .move (.tmp 9)⟩, ⟨(some 44), none, .bin .sub none (.tmp 43) (.const (.int .i64 1))⟩, ⟨(some 45), none, .indexS 2 (.tmp 42) (.tmp 44)⟩, ⟨(some 46), none, .load 2 true (.tmp 45)⟩, ⟨(some 47), none, .move (.tmp 0)⟩, ⟨(some 48), none, .move (.tmp 9)⟩, ⟨(some 49), none, .indexS 2 (.tmp 47) (.tmp 48)⟩, ⟨(some 50), none, .load 2 true (.tmp 49)⟩, ⟨(some 51), none, .indexS 2 (.tmp 37) (.tmp 38)⟩, ⟨none, none, .store 2 (.tmp 51) (.tmp 46)⟩, ⟨(some 52), none, .indexS 2 (.tmp 39) (.tmp 41)⟩, ⟨none, none, .store 2 (.tmp 52) (.tmp 50)⟩]))
            (.ops [⟨(some 35), none, .move (.tmp 9)⟩, ⟨(some 36), none, .bin .sub none (.tmp 35) (.const (.int .i64 1))⟩, ⟨(some 9), none, .move (.tmp 36)⟩])))))))
      (.ops [⟨(some 15), none, .move (.tmp 8)⟩, ⟨(some 16), none, .bin .add none (.tmp 15) (.const (.int .i64 1))⟩, ⟨(some 8), none, .move (.tmp 16)⟩])))))), []⟩
/-- slices.heapSortCmpFunc[[2]int] -/
def ir97 : IF := ⟨(.seq (.ops [⟨(some 13), none, .move (.tmp 1)⟩, ⟨(some 8), none, .move (.tmp 13)⟩])
  (.seq (.ops [⟨(some 9), none, .move (.const (.int .i64 0))⟩])
  (.seq (.ops [⟨(some 14), none, .move (.tmp 2)⟩, ⟨(some 15), none, .move (.tmp 1)⟩, ⟨(some 16), none, .bin .sub none (.tmp 14) (.tmp 15)⟩, ⟨(some 10), none, .move (.tmp 16)⟩])
  (.seq (.seq (.ops [⟨(some 17), none, .move (.tmp 10)⟩, ⟨(some 18), none, .bin .sub none (.tmp 17) (.const (.int .i64 1))⟩, ⟨(some 19), none, .bin .quo none (.tmp 18) (.const (.int .i64 2))⟩, ⟨(some 11), none, .move (.tmp 19)⟩])
  (.block 0 (.loop false [0, 3, 8, 9, 10, 11] (.seq (.seq (.ops [⟨(some 20), none, .move (.tmp 11)⟩, ⟨(some 21), none, .bin .geq none (.tmp 20) (.const (.int .i64 0))⟩])
      (.cond (.tmp 21) .skip
      (.exit 0)))
      (.seq (.block 1 (.ops [⟨(some 24), none, .move (.tmp 0)⟩, ⟨(some 25), none, .move (.tmp 11)⟩, ⟨(some 26), none, .move (.tmp 10)⟩, ⟨(some 27), none, .move (.tmp 8)⟩, ⟨(some 28), none, .move (.tmp 3)⟩, ⟨(some 29), none, .call false 107 [(.tmp 24), (.tmp 25), (.tmp 26), (.tmp 27), (.tmp 28)]⟩]))
      (.ops [⟨(some 22), none, .move (.tmp 11)⟩, ⟨(some 23), none, .bin .sub none (.tmp 22) (.const (.int .i64 1))⟩, ⟨(some 11), none, .move (.tmp 23)⟩]))))))
  (.seq (.ops [⟨(some 30), none, .move (.tmp 10)⟩, ⟨(some 31), none, .bin .sub none (.tmp 30) (.const (.int .i64 1))⟩, ⟨(some 12), none, .move (.tmp 31)⟩])
  (.block 2 (.loop false [0, 3, 8, 9, 12] (.seq (.seq (.ops [⟨(some 32), none, .move (.tmp 12)⟩, ⟨(some 33), none, .bin .geq none (.tmp 32) (.const (.int .i64 0))⟩])
      (.cond (.tmp 33) .skip
      (.exit 2)))
      (.seq (.block 3 (.seq (.ops [⟨(some 36), none, .move (.tmp 0)⟩, ⟨(some 37), none, .move (.tmp 8)⟩, ⟨(some 38), none, .move (.tmp 0)⟩, ⟨(some 39), none, .move (.tmp 8)⟩, ⟨(some 40), none, .move (.tmp 12)⟩, ⟨(some 41), none, .bin .add none (.tmp 39) (.tmp 40)⟩, ⟨(some 42), none, .move (.tmp 0)⟩, ⟨(some 43), none, .move (.tmp 8)⟩, ⟨(some 44), none, .move (.tmp 12)⟩, ⟨(some 45), none, .bin .add none (.tmp 43) (.tmp 44)⟩, ⟨(some 46), none, .indexS 2 (.tmp 42) (.tmp 45)⟩, ⟨(some 47), none, .load 2 true (.tmp 46)⟩, ⟨(some 48), none, .move (.tmp 0)⟩, ⟨(some 49), none, .move (.tmp 8)⟩, ⟨(some 50), none, .indexS 2 (.tmp 48) (.tmp 49)⟩, ⟨(some 51), none, .load 2 true (.tmp 50)⟩, ⟨(some 52), none, .indexS 2 (.tmp 36) (.tmp 37)⟩, ⟨none, none, .store 2 (.tmp 52) (.tmp 47)⟩, ⟨(some 53), none, .indexS 2 (.tmp 38) (.tmp 41)⟩, ⟨none, none, .store 2 (.tmp 53) (.tmp 51)⟩])
        (.ops [⟨(some 54), none, .move (.tmp 0)⟩, ⟨(some 55), none, .move (.tmp 9)⟩, ⟨(some 56), none, .move (.tmp 12)⟩, ⟨(some 57), none, .move (.tmp 8)⟩, ⟨(some 58), none, .move (.tmp 3)⟩, ⟨(some 59), none, .call false 107 [(.tmp 54), (.tmp 55), (.tmp 56), (.tmp 57), (.tmp 58)]⟩])))
      (.ops [⟨(some 34), none, .move (.tmp 12)⟩, ⟨(some 35), none, .bin .sub none (.tmp 34) (.const (.int .i64 1))⟩, ⟨(some 12), none, .move (.tmp 35)⟩])))))))))), []⟩
/-- slices.breakPatternsCmpFunc[[2]int] -/
def ir98 : IF := ⟨(.seq (.ops [⟨(some 13), none, .move (.tmp 2)⟩, ⟨(some 14), none, .move (.tmp 1)⟩, ⟨(some 15), none, .bin .sub none (.tmp 13) (.tmp 14)⟩, ⟨(some 8), none, .move (.tmp 15)⟩])
  (.seq (.ops [⟨(some 16), none, .move (.tmp 8)⟩, ⟨(some 17), none, .bin .geq none (.tmp 16) (.const (.int .i64 8))⟩])
  (.cond (.tmp 17) (.seq (.ops [⟨(some 18), none, .move (.tmp 8)⟩, ⟨(some 19), none, .conv .u64 (.tmp 18)⟩, ⟨(some 9), none, .alloc [(.v (.int .u64 0))]⟩, ⟨none, none, .store 1 (.tmp 9) (.tmp 19)⟩])
    (.seq (.ops [⟨(some 20), none, .move (.tmp 8)⟩, ⟨(some 21), none, .call true 108 [(.tmp 20)]⟩, ⟨(some 10), none, .move (.tmp 21)⟩])
    (.seq (.ops [⟨(some 22), none, .move (.tmp 1)⟩, ⟨(some 23), none, .move (.tmp 8)⟩, ⟨(some 24), none, .bin .quo none (.tmp 23) (.const (.int .i64 4))⟩, ⟨(some 25), none, .bin .mul none (.tmp 24) (.const (.int .i64 2))⟩, ⟨(some 26), none, .bin .add none (.tmp 22) (.tmp 25)⟩, ⟨(some 27), none, .bin .sub none (.tmp 26) (.const (.int .i64 1))⟩, ⟨(some 11), none, .move (.tmp 27)⟩])
    (.block 0 (.loop false [0, 1, 8, 9, 10, 11] (.seq (.seq (.ops [⟨(some 28), none, .move (.tmp 11)⟩, ⟨(some 29), none, .move (.tmp 1)⟩, ⟨(some 30), none, .move (.tmp 8)⟩, ⟨(some 31), none, .bin .quo none (.tmp 30) (.const (.int .i64 4))⟩, ⟨(some 32), none, .bin .mul none (.tmp 31) (.const (.int .i64 2))⟩, ⟨(some 33), none, .bin .add none (.tmp 29) (.tmp 32)⟩, ⟨(some 34), none, .bin .add none (.tmp 33) (.const (.int .i64 1))⟩, ⟨(some 35), none, .bin .leq none (.tmp 28) (.tmp 34)⟩])
        (.cond (.tmp 35) .skip
        (.exit 0)))
        (.seq (.block 1 (.seq (.ops [⟨(some 38), none, .call false 109 [(.tmp 9)]⟩, ⟨(some 39), none, .move (.tmp 10)⟩, ⟨(some 40), none, .bin .sub none (.tmp 39) (.const (.int .u64 1))⟩, ⟨(some 41), none, .bin .and none (.tmp 38) (.tmp 40)⟩, ⟨(some 42), none, .conv .i64 (.tmp 41)⟩, ⟨(some 12), none, .move (.tmp 42)⟩])
          (.seq (.seq (.ops [⟨(some 43), none, .move (.tmp 12)⟩, ⟨(some 44), none, .move (.tmp 8)⟩, ⟨(some 45), none, .bin .geq none (.tmp 43) (.tmp 44)⟩])
          (.cond (.tmp 45) (.ops [⟨(some 46), none, .move (.tmp 12)⟩, ⟨(some 47), none, .move (.tmp 8)⟩, ⟨(some 48), none, .bin .sub none (.tmp 46) (.tmp 47)⟩, ⟨(some 12), none, .move (.tmp 48)⟩])
          .skip))
          (.ops [⟨(some 49), none, .move (.tmp 0)⟩, ⟨(some 50), none, .move (.tmp 11)⟩, ⟨(some 51), none, .move (.tmp 0)⟩, ⟨(some 52), none, .move (.tmp 1)⟩, ⟨(some 53), none, .move (.tmp 12)⟩, ⟨(some 54), none, .bin .add none (.tmp 52) (.tmp 53)⟩, ⟨(some 55), none, .move (.tmp 0)⟩, ⟨(some 56), none, .move (.tmp 1)⟩, ⟨(some 57), none, .move (.tmp 12)⟩, ⟨(some 58), none, .bin .add none (.tmp 56) (.tmp 57)⟩, ⟨(some 59), none, .indexS 2 (.tmp 55) (.tmp 58)⟩, ⟨(some 60), none, .load 2 true (.tmp 59)⟩, ⟨(some 61), none, .move (.tmp 0)⟩, ⟨(some 62), none, .move (.tmp 11)⟩, ⟨(some 63), none, .indexS 2 (.tmp 61) (.tmp 62)⟩, ⟨(some 64), none, .load 2 true (.tmp 63)⟩, ⟨(some 65), none, .indexS 2 (.tmp 49) (.tmp 50)⟩, ⟨none, none, .store 2 (.tmp 65) (.tmp 60)⟩, ⟨(some 66), none, .indexS 2 (.tmp 51) (.tmp 54)⟩, ⟨none, none, .store 2 (.tmp 66) (.tmp 64)⟩]))))
        (.ops [⟨(some 36), none, .move (.tmp 11)⟩, ⟨(some 37), none, .bin .add none (.tmp 36) (.const (.int .i64 1))⟩, ⟨(some 11), none, .move (.tmp 37)⟩]))))))))
  .skip))), []⟩
/-- slices.choosePivotCmpFunc[[2]int] -/
def ir99 : IF := ⟨(.seq (.ops [⟨(some 8), none, .move (.const (.int .i64 0))⟩, ⟨(some 9), none, .move (.const (.int .i64 0))⟩])
  (.seq (.ops [⟨(some 15), none, .move (.tmp 2)⟩, ⟨(some 16), none, .move (.tmp 1)⟩, ⟨(some 17), none, .bin .sub none (.tmp 15) (.tmp 16)⟩, ⟨(some 10), none, .move (.tmp 17)⟩])
  (.seq (.ops [⟨(some 11), none, .alloc [(.v (.int .i64 0))]⟩])
  (.seq (.ops [⟨(some 18), none, .move (.tmp 1)⟩, ⟨(some 19), none, .move (.tmp 10)⟩, ⟨(some 20), none, .bin .quo none (.tmp 19) (.const (.int .i64 4))⟩, ⟨(some 21), none, .bin .mul none (.tmp 20) (.const (.int .i64 1))⟩, ⟨(some 22), none, .bin .add none (.tmp 18) (.tmp 21)⟩, ⟨(some 12), none, .move (.tmp 22)⟩])
  (.seq (.ops [⟨(some 23), none, .move (.tmp 1)⟩, ⟨(some 24), none, .move (.tmp 10)⟩, ⟨(some 25), none, .bin .quo none (.tmp 24) (.const (.int .i64 4))⟩, ⟨(some 26), none, .bin .mul none (.tmp 25) (.const (.int .i64 2))⟩, ⟨(some 27), none, .bin .add none (.tmp 23) (.tmp 26)⟩, ⟨(some 13), none, .move (.tmp 27)⟩])
  (.seq (.ops [⟨(some 28), none, .move (.tmp 1)⟩, ⟨(some 29), none, .move (.tmp 10)⟩, ⟨(some 30), none, .bin .quo none (.tmp 29) (.const (.int .i64 4))⟩, ⟨(some 31), none, .bin .mul none (.tmp 30) (.const (.int .i64 3))⟩, ⟨(some 32), none, .bin .add none (.tmp 28) (.tmp 31)⟩, ⟨(some 14), none, .move (.tmp 32)⟩])
  (.seq (.seq (.ops [⟨(some 33), none, .move (.tmp 10)⟩, ⟨(some 34), none, .bin .geq none (.tmp 33) (.const (.int .i64 8))⟩])
  (.cond (.tmp 34) (.seq (.seq (.ops [⟨(some 35), none, .move (.tmp 10)⟩, ⟨(some 36), none, .bin .geq none (.tmp 35) (.const (.int .i64 50))⟩])
    (.cond (.tmp 36) (.seq (.ops [⟨(some 37), none, .move (.tmp 0)⟩, ⟨(some 38), none, .move (.tmp 12)⟩, ⟨(some 39), none, .move (.tmp 3)⟩, ⟨(some 40), none, .call false 110 [(.tmp 37), (.tmp 38), (.tmp 11), (.tmp 39)]⟩, ⟨(some 12), none, .move (.tmp 40)⟩])
      (.seq (.ops [⟨(some 41), none, .move (.tmp 0)⟩, ⟨(some 42), none, .move (.tmp 13)⟩, ⟨(some 43), none, .move (.tmp 3)⟩, ⟨(some 44), none, .call false 110 [(.tmp 41), (.tmp 42), (.tmp 11), (.tmp 43)]⟩, ⟨(some 13), none, .move (.tmp 44)⟩])
      (.ops [⟨(some 45), none, .move (.tmp 0)⟩, ⟨(some 46), none, .move (.tmp 14)⟩, ⟨(some 47), none, .move (.tmp 3)⟩, ⟨(some 48), none, .call false 110 [(.tmp 45), (.tmp 46), (.tmp 11), (.tmp 47)]⟩, ⟨(some 14), none, .move (.tmp 48)⟩])))
    .skip))
    (.ops [⟨(some 49), none, .move (.tmp 0)⟩, ⟨(some 50), none, .move (.tmp 12)⟩, ⟨(some 51), none, .move (.tmp 13)⟩, ⟨(some 52), none, .move (.tmp 14)⟩, ⟨(some 53), none, .move (.tmp 3)⟩, ⟨(some 54), none, .call false 111 [(.tmp 49), (.tmp 50), (.tmp 51), (.tmp 52), (.tmp 11), (.tmp 53)]⟩, ⟨(some 13), none, .move (.tmp 54)⟩]))
  .skip))
  (.seq (.ops [⟨(some 55), none, .load 1 false (.tmp 11)⟩])
  (.block 0 (.seq (.ops [⟨(some 58), none, .bin .eql none (.tmp 55) (.const (.int .i64 0))⟩, ⟨(some 57), none, .move (.tmp 58)⟩])
    (.cond (.tmp 57) (.seq (.ops [⟨(some 59), none, .move (.tmp 13)⟩, ⟨(some 8), none, .move (.tmp 59)⟩, ⟨(some 9), none, .move (.const (.int .i64 1))⟩])
      .ret)
    (.seq (.ops [⟨(some 61), none, .bin .eql none (.tmp 55) (.const (.int .i64 12))⟩, ⟨(some 60), none, .move (.tmp 61)⟩])
      (.cond (.tmp 60) (.seq (.ops [⟨(some 62), none, .move (.tmp 13)⟩, ⟨(some 8), none, .move (.tmp 62)⟩, ⟨(some 9), none, .move (.const (.int .i64 2))⟩])
        .ret)
      (.seq (.ops [⟨(some 56), none, .move (.tmp 13)⟩, ⟨(some 8), none, .move (.tmp 56)⟩, ⟨(some 9), none, .move (.const (.int .i64 0))⟩])
        .ret)))))))))))))), [(8, none), (9, none)]⟩
/-- slices.reverseRangeCmpFunc[[2]int] -/
def ir100 : IF := ⟨(.seq (.ops [⟨(some 10), none, .move (.tmp 1)⟩, ⟨(some 8), none, .move (.tmp 10)⟩])
  (.seq (.ops [⟨(some 11), none, .move (.tmp 2)⟩, ⟨(some 12), none, .bin .sub none (.tmp 11) (.const (.int .i64 1))⟩, ⟨(some 9), none, .move (.tmp 12)⟩])
  (.block 0 (.loop false [0, 8, 9] (.seq (.seq (.ops [⟨(some 13), none, .move (.tmp 8)⟩, ⟨(some 14), none, .move (.tmp 9)⟩, ⟨(some 15), none, .bin .lss none (.tmp 13) (.tmp 14)⟩])
      (.cond (.tmp 15) .skip
      (.exit 0)))
      (.block 1 (.seq (.ops [⟨(some 16), none, .move (.tmp 0)⟩, ⟨(some 17), none, .move (.tmp 8)⟩, ⟨(some 18), none, .move (.tmp 0)⟩, ⟨(some 19), none, .move (.tmp 9)⟩, ⟨(some 20), none, .move (.tmp 0)⟩, ⟨(some 21), none, .move (.tmp 9)⟩, ⟨(some 22), none, .indexS 2 (.tmp 20) (.tmp 21)⟩, ⟨(some 23), none, .load 2 true (.tmp 22)⟩, ⟨(some 24), none, .move (.tmp 0)⟩, ⟨(some 25), none, .move (.tmp 8)⟩, ⟨(some 26), none, .indexS 2 (.tmp 24) (.tmp 25)⟩, ⟨(some 27), none, .load 2 true (.tmp 26)⟩, ⟨(some 28), none, .indexS 2 (.tmp 16) (.tmp 17)⟩, ⟨none, none, .store 2 (.tmp 28) (.tmp 23)⟩, ⟨(some 29), none, .indexS 2 (.tmp 18) (.tmp 19)⟩, ⟨none, none, .store 2 (.tmp 29) (.tmp 27)⟩])
        (.seq (.ops [⟨(some 30), none, .move (.tmp 8)⟩, ⟨(some 31), none, .bin .add none (.tmp 30) (.const (.int .i64 1))⟩, ⟨(some 8), none, .move (.tmp 31)⟩])
        (.ops [⟨(some 32), none, .move (.tmp 9)⟩, ⟨(some 33), none, .bin .sub none (.tmp 32) (.const (.int .i64 1))⟩, ⟨(some 9), none, .move (.tmp 33)⟩]))))))))), []⟩
/-- slices.partialInsertionSortCmpFunc[[2]int] -/
def ir101 : IF := ⟨(.seq (.ops [⟨(some 8), none, .move (.const (.bool false))⟩])
  (.seq (.ops [⟨(some 13), none, .move (.tmp 1)⟩, ⟨(some 14), none, .bin .add none (.tmp 13) (.const (.int .i64 1))⟩, ⟨(some 9), none, .move (.tmp 14)⟩])
  (.seq (.seq (.ops [⟨(some 10), none, .move (.const (.int .i64 0))⟩])
  (.block 0 (.loop false [0, 1, 2, 3, 9, 10] (.seq (.seq (.ops [⟨(some 15), none, .move (.tmp 10)⟩, ⟨(some 16), none, .bin .lss none (.tmp 15) (.const (.int .i64 5))⟩])
      (.cond (.tmp 16) .skip
      (.exit 0)))
      (.seq (.block 1 (.seq (.block 2 (.loop false [0, 1, 2, 3, 9, 10] (.seq (.seq (.ops [⟨(some 19), none, .move (.tmp 9)⟩, ⟨(some 20), none, .move (.tmp 2)⟩, ⟨(some 21), none, .bin .lss none (.tmp 19) (.tmp 20)⟩, ⟨(some 22), none, .move (.tmp 21)⟩, ⟨(some 23), (some (22, true)), .move (.tmp 3)⟩, ⟨(some 24), (some (22, true)), .move (.tmp 0)⟩, ⟨(some 25), (some (22, true)), .move (.tmp 9)⟩, ⟨(some 26), (some (22, true)), .indexS 2 (.tmp 24) (.tmp 25)⟩, ⟨(some 27), (some (22, true)), .load 2 true (.tmp 26)⟩, ⟨(some 28), (some (22, true)), .move (.tmp 0)⟩, ⟨(some 29), (some (22, true)), .move (.tmp 9)⟩, ⟨(some 30), (some (22, true)), .bin .sub none (.tmp 29) (.const (.int .i64 1))⟩, ⟨(some 31), (some (22, true)), .indexS 2 (.tmp 28) (.tmp 30)⟩, ⟨(some 32), (some (22, true)), .load 2 true (.tmp 31)⟩, ⟨(some 33), (some (22, true)), .callv false (.tmp 23) [(.tmp 27), (.tmp 32)]⟩, ⟨(some 34), (some (22, true)), .bin .lss none (.tmp 33) (.const (.int .i64 0))⟩, ⟨(some 35), (some (22, true)), .not (.tmp 34)⟩, ⟨(some 36), none, .pick (.tmp 22) (.tmp 35) (.const (.bool false))⟩])
            (.cond (.tmp 36) .skip
            (.exit 2)))
            (.block 3 (.ops [⟨(some 37), none, .move (.tmp 9)⟩, ⟨(some 38), none, .bin .add none (.tmp 37) (.const (.int .i64 1))⟩, ⟨(some 9), none, .move (.tmp 38)⟩])))))
        (.seq (.seq (.ops [⟨(some 39), none, .move (.tmp 9)⟩, ⟨(some 40), none, .move (.tmp 2)⟩, ⟨(some 41), none, .bin .eql none (.tmp 39) (.tmp 40)⟩])
        (.cond (.tmp 41) (.seq (.ops [⟨(some 8), none, .move (.const (.bool true))⟩])
          .ret)
        .skip))
        (.seq (.seq (.ops [⟨(some 42), none, .move (.tmp 2)⟩, ⟨(some 43), none, .move (.tmp 1)⟩, ⟨(some 44), none, .bin .sub none (.tmp 42) (.tmp 43)⟩, ⟨(some 45), none, .bin .lss none (.tmp 44) (.const (.int .i64 50))⟩])
        (.cond (.tmp 45) (.seq (.ops [⟨(some 8), none, .move (.const (.bool false))⟩])
          .ret)
        .skip))
        (.seq (.ops [⟨(some 46), none, .move (.tmp 0)⟩, ⟨(some 47), none, .move (.tmp 9)⟩, ⟨(some 48), none, .move (.tmp 0)⟩, ⟨(some 49), none, .move (.tmp 9)⟩, ⟨(some 50), none, .bin .sub none (.tmp 49) (.const (.int .i64 1))⟩, ⟨(some 51), none, .move (.tmp 0)⟩, ⟨(some 52), none, .move (.tmp 9)⟩, ⟨(some 53), none, .bin .sub none (.tmp 52) (.const (.int .i64 1))⟩, ⟨(some 54), none, .indexS 2 (.tmp 51) (.tmp 53)⟩, ⟨(some 55), none, .load 2 true (.tmp 54)⟩, ⟨(some 56), none, .move (.tmp 0)⟩, ⟨(some 57), none, .move (.tmp 9)⟩, ⟨(some 58), none, .indexS 2 (.tmp 56) (.tmp 57)⟩, ⟨(some 59), none, .load 2 true (.tmp 58)⟩, ⟨(some 60), none, .indexS 2 (.tmp 46) (.tmp 47)⟩, ⟨none, none, .store 2 (.tmp 60) (.tmp 55)⟩, ⟨(some 61), none, .indexS 2 (.tmp 48) (.tmp 50)⟩, ⟨none, none, .store 2 (.tmp 61) (.tmp 59)⟩])
        (.seq (.seq (.ops [⟨(some 62), none, .move (.tmp 9)⟩, ⟨(some 63), none, .move (.tmp 1)⟩, ⟨(some 64), none, .bin .sub none (.tmp 62) (.tmp 63)⟩, ⟨(some 65), none, .bin .geq none (.tmp 64) (.const (.int .i64 2))⟩])
        (.cond (.tmp 65) (.seq (.ops [⟨(some 66), none, .move (.tmp 9)⟩, ⟨(some 67), none, .bin .sub none (.tmp 66) (.const (.int .i64 1))⟩, ⟨(some 11), none, .move (.tmp 67)⟩])
          (.block 4 (.loop false [0, 1, 2, 3, 9, 10, 11] (.seq (.seq (.ops [⟨(some 68), none, .move (.tmp 11)⟩, ⟨(some 69), none, .bin .geq none (.tmp 68) (.const (.int .i64 1))⟩])
              (.cond (.tmp 69) .skip
              (.exit 4)))
              (.seq (.block 5 (.seq (.seq (.ops [⟨(some 72), none, .move (.tmp 3)⟩, ⟨(some 73), none, .move (.tmp 0)⟩, ⟨(some 74), none, .move (.tmp 11)⟩, ⟨(some 75), none, .indexS 2 (.tmp 73) (.tmp 74)⟩, ⟨(some 76), none, .load 2 true (.tmp 75)⟩, ⟨(some 77), none, .move (.tmp 0)⟩, ⟨(some 78), none, .move (.tmp 11)⟩, ⟨(some 79), none, .bin .sub none (.tmp 78) (.const (.int .i64 1))⟩, ⟨(some 80), none, .indexS 2 (.tmp 77) (.tmp 79)⟩, ⟨(some 81), none, .load 2 true (.tmp 80)⟩, ⟨(some 82), none, .callv false (.tmp 72) [(.tmp 76), (.tmp 81)]⟩, ⟨(some 83), none, .bin .lss none (.tmp 82) (.const (.int .i64 0))⟩, ⟨(some 84), none, .not (.tmp 83)⟩])
                (.cond (.tmp 84) (.exit 4)
                .skip))
                (.ops [⟨(some 85), none, .move (.tmp 0)⟩, ⟨(some 86), none, .move (.tmp 11)⟩, ⟨(some 87), none, .move (.tmp 0)⟩, ⟨(some 88), none, .move (.tmp 11)⟩, ⟨(some 89), none, .bin .sub none (.tmp 88) (.const (.int .i64 1))⟩, ⟨(some 90), none, .move (.tmp 0)⟩, ⟨(some 91), none, .move (.tmp 11)⟩, ⟨(some 92), none, .bin .sub none (.tmp 91) (.const (.int .i64 1))⟩, ⟨(some 93), none, .indexS 2 (.tmp 90) (.tmp 92)⟩, ⟨(some 94), none, .load 2 true (.tmp 93)⟩, ⟨(some 95), none, .move (.tmp 0)⟩, ⟨(some 96), none, .move (.tmp 11)⟩, ⟨(some 97), none, .indexS 2 (.tmp 95) (.tmp 96)⟩, ⟨(some 98), none, .load 2 true (.tmp 97)⟩, ⟨(some 99), none, .indexS 2 (.tmp 85) (.tmp 86)⟩, ⟨none, none, .store 2 (.tmp 99) (.tmp 94)⟩, ⟨(some 100), none, .indexS 2 (.tmp 87) (.tmp 89)⟩, ⟨none, none, .store 2 (.tmp 100) (.tmp 98)⟩])))
              (.ops [⟨(some 70), none, .move (.tmp 11)⟩, ⟨(some 71), none, .bin .sub none (.tmp 70) (.const (.int .i64 1))⟩, ⟨(some 11), none, .move (.tmp 71)⟩]))))))
        .skip))
        (.seq (.ops [⟨(some 101), none, .move (.tmp 2)⟩, ⟨(some 102), none, .move (.tmp 9)⟩, ⟨(some 103), none, .bin .sub none (.tmp 101) (.tmp 102)⟩, ⟨(some 104), none, .bin .geq none (.tmp 103) (.const (.int .i64 2))⟩])
        (.cond (.tmp 104) (.seq (.ops [⟨(some 105), none, .move (.tmp 9)⟩, ⟨(some 106), none, .bin .add none (.tmp 105) (.const (.int .i64 1))⟩, ⟨(some 12), none, .move (.tmp 106)⟩])
          (.block 6 (.loop false [0, 1, 2, 3, 9, 10, 12] (.seq (.seq (.ops [⟨(some 107), none, .move (.tmp 12)⟩, ⟨(some 108), none, .move (.tmp 2)⟩, ⟨(some 109), none, .bin .lss none (.tmp 107) (.tmp 108)⟩])
              (.cond (.tmp 109) .skip
              (.exit 6)))
              (.seq (.block 7 (.seq (.seq (.ops [⟨(some 112), none, .move (.tmp 3)⟩, ⟨(some 113), none, .move (.tmp 0)⟩, ⟨(some 114), none, .move (.tmp 12)⟩, ⟨(some 115), none, .indexS 2 (.tmp 113) (.tmp 114)⟩, ⟨(some 116), none, .load 2 true (.tmp 115)⟩, ⟨(some 117), none, .move (.tmp 0)⟩, ⟨(some 118), none, .move (.tmp 12)⟩, ⟨(some 119), none, .bin .sub none (.tmp 118) (.const (.int .i64 1))⟩, ⟨(some 120), none, .indexS 2 (.tmp 117) (.tmp 119)⟩, ⟨(some 121), none, .load 2 true (.tmp 120)⟩, ⟨(some 122), none, .callv false (.tmp 112) [(.tmp 116), (.tmp 121)]⟩, ⟨(some 123), none, .bin .lss none (.tmp 122) (.const (.int .i64 0))⟩, ⟨(some 124), none, .not (.tmp 123)⟩])
                (.cond (.tmp 124) (.exit 6)
                .skip))
                (.ops [⟨(some 125), none, .move (.tmp 0)⟩, ⟨(some 126), none, .move (.tmp 12)⟩, ⟨(some 127), none, .move (.tmp 0)⟩, ⟨(some 128), none, .move (.tmp 12)⟩, ⟨(some 129), none, .bin .sub none (.tmp 128) (.const (.int .i64 1))⟩, ⟨(some 130), none, .move (.tmp 0)⟩, ⟨(some 131), none, .move (.tmp 12)⟩, ⟨(some 132), none, .bin .sub none (.tmp 131) (.const (.int .i64 1))⟩, ⟨(some 133), none, .indexS 2 (.tmp 130) (.tmp 132)⟩, ⟨(some 134), none, .load 2 true (.tmp 133)⟩, ⟨(some 135), none, .move (.tmp 0)⟩, ⟨(some 136), none, .move (.tmp 12)⟩, ⟨(some 137), none, .indexS 2 (.tmp 135) (.tmp 136)⟩, ⟨(some 138), none, .load 2 true (.tmp 137)⟩, ⟨(some 139), none, .indexS 2 (.tmp 125) (.tmp 126)⟩, ⟨none, none, .store 2 (.tmp 139) (.tmp 134)⟩, ⟨(some 140), none, .indexS 2 (.tmp 127) (.tmp 129)⟩, ⟨none, none, .store 2 (.tmp 140) (.tmp 138)⟩])))
              (.ops [⟨(some 110), none, .move (.tmp 12)⟩, ⟨(some 111), none, .bin .add none (.tmp 110) (.const (.int .i64 1))⟩, ⟨(some 12), none, .move (.tmp 111)⟩]))))))
        .skip))))))))
      (.ops [⟨(some 17), none, .move (.tmp 10)⟩, ⟨(some 18), none, .bin .add none (.tmp 17) (.const (.int .i64 1))⟩, ⟨(some 10), none, .move (.tmp 18)⟩]))))))
  (.seq (.ops [⟨(some 8), none, .move (.const (.bool false))⟩])
  .ret)))), [(8, none)]⟩
/-- slices.partitionEqualCmpFunc[[2]int] -/
def ir102 : IF := ⟨(.seq (.ops [⟨(some 10), none, .move (.const (.int .i64 0))⟩])
  (.seq (.ops [⟨(some 13), none, .move (.tmp 0)⟩, ⟨(some 14), none, .move (.tmp 1)⟩, ⟨(some 15), none, .move (.tmp 0)⟩, ⟨(some 16), none, .move (.tmp 3)⟩, ⟨(some 17), none, .move (.tmp 0)⟩, ⟨(some 18), none, .move (.tmp 3)⟩, ⟨(some 19), none, .indexS 2 (.tmp 17) (.tmp 18)⟩, ⟨(some 20), none, .load 2 true (.tmp 19)⟩, ⟨(some 21), none, .move (.tmp 0)⟩, ⟨(some 22), none, .move (.tmp 1)⟩, ⟨(some 23), none, .indexS 2 (.tmp 21) (.tmp 22)⟩, ⟨(some 24), none, .load 2 true (.tmp 23)⟩, ⟨(some 25), none, .indexS 2 (.tmp 13) (.tmp 14)⟩, ⟨none, none, .store 2 (.tmp 25) (.tmp 20)⟩, ⟨(some 26), none, .indexS 2 (.tmp 15) (.tmp 16)⟩, ⟨none, none, .store 2 (.tmp 26) (.tmp 24)⟩])
  (.seq (.ops [⟨(some 27), none, .move (.tmp 1)⟩, ⟨(some 28), none, .bin .add none (.tmp 27) (.const (.int .i64 1))⟩, ⟨(some 29), none, .move (.tmp 2)⟩, ⟨(some 30), none, .bin .sub none (.tmp 29) (.const (.int .i64 1))⟩, ⟨(some 11), none, .move (.tmp 28)⟩, ⟨(some 12), none, .move (.tmp 30)⟩])
  (.seq (.block 0 (.loop false [0, 1, 4, 11, 12] (.block 1 (.seq (.block 2 (.loop false [0, 1, 4, 11, 12] (.seq (.seq (.ops [⟨(some 31), none, .move (.tmp 11)⟩, ⟨(some 32), none, .move (.tmp 12)⟩, ⟨(some 33), none, .bin .leq none (.tmp 31) (.tmp 32)⟩, ⟨(some 34), none, .move (.tmp 33)⟩, ⟨(some 35), (some (34, true)), .move (.tmp 4)⟩, ⟨(some 36), (some (34, true)), .move (.tmp 0)⟩, ⟨(some 37), (some (34, true)), .move (.tmp 1)⟩, ⟨(some 38), (some (34, true)), .indexS 2 (.tmp 36) (.tmp 37)⟩, ⟨(some 39), (some (34, true)), .load 2 true (.tmp 38)⟩, ⟨(some 40), (some (34, true)), .move (.tmp 0)⟩, ⟨(some 41), (some (34, true)), .move (.tmp 11)⟩, ⟨(some 42), (some (34, true)), .indexS 2 (.tmp 40) (.tmp 41)⟩, ⟨(some 43), (some (34, true)), .load 2 true (.tmp 42)⟩, ⟨(some 44), (some (34, true)), .callv false (.tmp 35) [(.tmp 39), (.tmp 43)]⟩, ⟨(some 45), (some (34, true)), .bin .lss none (.tmp 44) (.const (.int .i64 0))⟩, ⟨(some 46), (some (34, true)), .not (.tmp 45)⟩, ⟨(some 47), none, .pick (.tmp 34) (.tmp 46) (.const (.bool false))⟩])
            (.cond (.tmp 47) .skip
            (.exit 2)))
            (.block 3 (.ops [⟨(some 48), none, .move (.tmp 11)⟩, ⟨(some 49), none, .bin .add none (.tmp 48) (.const (.int .i64 1))⟩, ⟨(some 11), none, .move (.tmp 49)⟩])))))
        (.seq (.block 4 (.loop false [0, 1, 4, 11, 12] (.seq (.seq (.ops [⟨(some 50), none, .move (.tmp 11)⟩, ⟨(some 51), none, .move (.tmp 12)⟩, ⟨(some 52), none, .bin .leq none (.tmp 50) (.tmp 51)⟩, ⟨(some 53), none, .move (.tmp 52)⟩, ⟨(some 54), (some (53, true)), .move (.tmp 4)⟩, ⟨(some 55), (some (53, true)), .move (.tmp 0)⟩, ⟨(some 56), (some (53, true)), .move (.tmp 1)⟩, ⟨(some 57), (some (53, true)), .indexS 2 (.tmp 55) (.tmp 56)⟩, ⟨(some 58), (some (53, true)), .load 2 true (.tmp 57)⟩, ⟨(some 59), (some (53, true)), .move (.tmp 0)⟩, ⟨(some 60), (some (53, true)), .move (.tmp 12)⟩, ⟨(some 61), (some (53, true)), .indexS 2 (.tmp 59) (.tmp 60)⟩, ⟨(some 62), (some (53, true)), .load 2 true (.tmp 61)⟩, ⟨(some 63), (some (53, true)), .callv false (.tmp 54) [(.tmp 58), (.tmp 62)]⟩, ⟨(some 64), (some (53, true)), .bin .lss none (.tmp 63) (.const (.int .i64 0))⟩, ⟨(some 65), none, .pick (.tmp 53) (.tmp 64) (.const (.bool false))⟩])
            (.cond (.tmp 65) .skip
            (.exit 4)))
            (.block 5 (.ops [⟨(some 66), none, .move (.tmp 12)⟩, ⟨(some 67), none, .bin .sub none (.tmp 66) (.const (.int .i64 1))⟩, ⟨(some 12), none, .move (.tmp 67)⟩])))))
        (.seq (.seq (.ops [⟨(some 68), none, .move (.tmp 11)⟩, ⟨(some 69), none, .move (.tmp 12)⟩, ⟨(some 70), none, .bin .gtr none (.tmp 68) (.tmp 69)⟩])
        (.cond (.tmp 70) (.exit 0)
        .skip))
        (.seq (.ops [⟨(some 71), none, .move (.tmp 0)⟩, ⟨(some 72), none, .move (.tmp 11)⟩, ⟨(some 73), none, .move (.tmp 0)⟩, ⟨(some 74), none, .move (.tmp 12)⟩, ⟨(some 75), none, .move (.tmp 0)⟩, ⟨(some 76), none, .move (.tmp 12)⟩, ⟨(some 77), none, .indexS 2 (.tmp 75) (.tmp 76)⟩, ⟨(some 78), none, .load 2 true (.tmp 77)⟩, ⟨(some 79), none, .move (.tmp 0)⟩, ⟨(some 80), none, .move (.tmp 11)⟩, ⟨(some 81), none, .indexS 2 (.tmp 79) (.tmp 80)⟩, ⟨(some 82), none, .load 2 true (.tmp 81)⟩, ⟨(some 83), none, .indexS 2 (.tmp 71) (.tmp 72)⟩, ⟨none, none, .store 2 (.tmp 83) (.tmp 78)⟩, ⟨(some 84), none, .indexS 2 (.tmp 73) (.tmp 74)⟩, ⟨none, none, .store 2 (.tmp 84) (.tmp 82)⟩])
        (.seq (.ops [⟨(some 85), none, .move (.tmp 11)⟩, ⟨(some 86), none, .bin .add none (.tmp 85) (.const (.int .i64 1))⟩, ⟨(some 11), none, .move (.tmp 86)⟩])
        (.ops [⟨(some 87), none, .move (.tmp 12)⟩, ⟨(some 88), none, .bin .sub none (.tmp 87) (.const (.int .i64 1))⟩, ⟨(some 12), none, .move (.tmp 88)⟩])))))))))
  (.seq (.ops [⟨(some 89), none, .move (.tmp 11)⟩, ⟨(some 10), none, .move (.tmp 89)⟩])
  .ret))))), [(10, none)]⟩
/-- slices.partitionCmpFunc[[2]int] -/
def ir103 : IF := ⟨(.seq (.ops [⟨(some 10), none, .move (.const (.int .i64 0))⟩, ⟨(some 11), none, .move (.const (.bool false))⟩])
  (.seq (.ops [⟨(some 14), none, .move (.tmp 0)⟩, ⟨(some 15), none, .move (.tmp 1)⟩, ⟨(some 16), none, .move (.tmp 0)⟩, ⟨(some 17), none, .move (.tmp 3)⟩, ⟨(some 18), none, .move (.tmp 0)⟩, ⟨(some 19), none, .move (.tmp 3)⟩, ⟨(some 20), none, .indexS 2 (.tmp 18) (.tmp 19)⟩, ⟨(some 21), none, .load 2 true (.tmp 20)⟩, ⟨(some 22), none, .move (.tmp 0)⟩, ⟨(some 23), none, .move (.tmp 1)⟩, ⟨(some 24), none, .indexS 2 (.tmp 22) (.tmp 23)⟩, ⟨(some 25), none, .load 2 true (.tmp 24)⟩, ⟨(some 26), none, .indexS 2 (.tmp 14) (.tmp 15)⟩, ⟨none, none, .store 2 (.tmp 26) (.tmp 21)⟩, ⟨(some 27), none, .indexS 2 (.tmp 16) (.tmp 17)⟩, ⟨none, none, .store 2 (.tmp 27) (.tmp 25)⟩])
  (.seq (.ops [⟨(some 28), none, .move (.tmp 1)⟩, ⟨(some 29), none, .bin .add none (.tmp 28) (.const (.int .i64 1))⟩, ⟨(some 30), none, .move (.tmp 2)⟩, ⟨(some 31), none, .bin .sub none (.tmp 30) (.const (.int .i64 1))⟩, ⟨(some 12), none, .move (.tmp 29)⟩, ⟨(some 13), none, .move (.tmp 31)⟩])
  (.seq (.block 0 (.loop false [0, 1, 4, 12, 13] (.seq (.seq (.ops [⟨(some 32), none, .move (.tmp 12)⟩, ⟨(some 33), none, .move (.tmp 13)⟩, ⟨(some 34), none, .bin .leq none (.tmp 32) (.tmp 33)⟩, ⟨(some 35), none, .move (.tmp 34)⟩, ⟨(some 36), (some (35, true)), .move (.tmp 4)⟩, ⟨(some 37), (some (35, true)), .move (.tmp 0)⟩, ⟨(some 38), (some (35, true)), .move (.tmp 12)⟩, ⟨(some 39), (some (35, true)), .indexS 2 (.tmp 37) (.tmp 38)⟩, ⟨(some 40), (some (35, true)), .load 2 true (.tmp 39)⟩, ⟨(some 41), (some (35, true)), .move (.tmp 0)⟩, ⟨(some 42), (some (35, true)), .move (.tmp 1)⟩, ⟨(some 43), (some (35, true)), .indexS 2 (.tmp 41) (.tmp 42)⟩, ⟨(some 44), (some (35, true)), .load 2 true (.tmp 43)⟩, ⟨(some 45), (some (35, true)), .callv false (.tmp 36) [(.tmp 40), (.tmp 44)]⟩, ⟨(some 46), (some (35, true)), .bin .lss none (.tmp 45) (.const (.int .i64 0))⟩, ⟨(some 47), none, .pick (.tmp 35) (.tmp 46) (.const (.bool false))⟩])
      (.cond (.tmp 47) .skip
      (.exit 0)))
      (.block 1 (.ops [⟨(some 48), none, .move (.tmp 12)⟩, ⟨(some 49), none, .bin .add none (.tmp 48) (.const (.int .i64 1))⟩, ⟨(some 12), none, .move (.tmp 49)⟩])))))
  (.seq (.block 2 (.loop false [0, 1, 4, 12, 13] (.seq (.seq (.ops [⟨(some 50), none, .move (.tmp 12)⟩, ⟨(some 51), none, .move (.tmp 13)⟩, ⟨(some 52), none, .bin .leq none (.tmp 50) (.tmp 51)⟩, ⟨(some 53), none, .move (.tmp 52)⟩, ⟨(some 54), (some (53, true)), .move (.tmp 4)⟩, ⟨(some 55), (some (53, true)), .move (.tmp 0)⟩, ⟨(some 56), (some (53, true)), .move (.tmp 13)⟩, ⟨(some 57), (some (53, true)), .indexS 2 (.tmp 55) (.tmp 56)⟩, ⟨(some 58), (some (53, true)), .load 2 true (.tmp 57)⟩, ⟨(some 59), (some (53, true)), .move (.tmp 0)⟩, ⟨(some 60), (some (53, true)), .move (.tmp 1)⟩, ⟨(some 61), (some (53, true)), .indexS 2 (.tmp 59) (.tmp 60)⟩, ⟨(some 62), (some (53, true)), .load 2 true (.tmp 61)⟩, ⟨(some 63), (some (53, true)), .callv false (.tmp 54) [(.tmp 58), (.tmp 62)]⟩, ⟨(some 64), (some (53, true)), .bin .lss none (.tmp 63) (.const (.int .i64 0))⟩, ⟨(some 65), (some (53, true)), .not (.tmp 64)⟩, ⟨(some 66), none, .pick (.tmp 53) (.tmp 65) (.const (.bool false))⟩])
      (.cond (.tmp 66) .skip
      (.exit 2)))
      (.block 3 (.ops [⟨(some 67), none, .move (.tmp 13)⟩, ⟨(some 68), none, .bin .sub none (.tmp 67) (.const (.int .i64 1))⟩, ⟨(some 13), none, .move (.tmp 68)⟩])))))
  (.seq (.seq (.ops [⟨(some 69), none, .move (.tmp 12)⟩, ⟨(some 70), none, .move (.tmp 13)⟩, ⟨(some 71), none, .bin .gtr none (.tmp 69) (.tmp 70)⟩])
  (.cond (.tmp 71) (.seq (.ops [⟨(some 72), none, .move (.tmp 0)⟩, ⟨(some 73), none, .move (.tmp 13)⟩, ⟨(some 74), none, .move (.tmp 0)⟩, ⟨(some 75), none, .move (.tmp 1)⟩, ⟨(some 76), none, .move (.tmp 0)⟩, ⟨(some 77), none, .move (.tmp 1)⟩, ⟨(some 78), none, .indexS 2 (.tmp 76) (.tmp 77)⟩, ⟨(some 79), none, .load 2 true (.tmp 78)⟩, ⟨(some 80), none, .move (.tmp 0)⟩, ⟨(some 81), none, .move (.tmp 13)⟩, ⟨(some 82), none, .indexS 2 (.tmp 80) (.tmp 81)⟩, ⟨(some 83), none, .load 2 true (.tmp 82)⟩, ⟨(some 84), none, .indexS 2 (.tmp 72) (.tmp 73)⟩, ⟨none, none, .store 2 (.tmp 84) (.tmp 79)⟩, ⟨(some 85), none, .indexS 2 (.tmp 74) (.tmp 75)⟩, ⟨none, none, .store 2 (.tmp 85) (.tmp 83)⟩])
    (.seq (.ops [⟨(some 86), none, .move (.tmp 13)⟩, ⟨(some 10), none, .move (.tmp 86)⟩, ⟨(some 11), none, .move (.const (.bool true))⟩])
    .ret))
  .skip))
  (.seq (.ops [⟨(some 87), none, .move (.tmp 0)⟩, ⟨(some 88), none, .move (.tmp 12)⟩, ⟨(some 89), none, .move (.tmp 0)⟩, ⟨(some 90), none, .move (.tmp 13)⟩, ⟨(some 91), none, .move (.tmp 0)⟩, ⟨(some 92), none, .move (.tmp 13)⟩, ⟨(some 93), none, .indexS 2 (.tmp 91) (.tmp 92)⟩, ⟨(some 94), none, .load 2 true (.tmp 93)⟩, ⟨(some 95), none, .move (.tmp 0)⟩, ⟨(some 96), none, .move (.tmp 12)⟩, ⟨(some 97), none, .indexS 2 (.tmp 95) (.tmp 96)⟩, ⟨(some 98), none, .load 2 true (.tmp 97)⟩, ⟨(some 99), none, .indexS 2 (.tmp 87) (.tmp 88)⟩, ⟨none, none, .store 2 (.tmp 99) (.tmp 94)⟩, ⟨(some 100), none, .indexS 2 (.tmp 89) (.tmp 90)⟩, ⟨none, none, .store 2 (.tmp 100) (.tmp 98)⟩])
  (.seq (.ops [⟨(some 101), none, .move (.tmp 12)⟩, ⟨(some 102), none, .bin .add none (.tmp 101) (.const (.int .i64 1))⟩, ⟨(some 12), none, .move (.tmp 102)⟩])
  (.seq (.ops [⟨(some 103), none, .move (.tmp 13)⟩, ⟨(some 104), none, .bin .sub none (.tmp 103) (.const (.int .i64 1))⟩, ⟨(some 13), none, .move (.tmp 104)⟩])
  (.seq (.block 4 (.loop false [0, 1, 4, 12, 13] (.block 5 (.seq (.block 6 (.loop false [0, 1, 4, 12, 13] (.seq (.seq (.ops [⟨(some 105), none, .move (.tmp 12)⟩, ⟨(some 106), none, .move (.tmp 13)⟩, ⟨(some 107), none, .bin .leq none (.tmp 105) (.tmp 106)⟩, ⟨(some 108), none, .move (.tmp 107)⟩, ⟨(some 109), (some (108, true)), .move (.tmp 4)⟩, ⟨(some 110), (some (108, true)), .move (.tmp 0)⟩, ⟨(some 111), (some (108, true)), .move (.tmp 12)⟩, ⟨(some 112), (some (108, true)), .indexS 2 (.tmp 110) (.tmp 111)⟩, ⟨(some 113), (some (108, true)), .load 2 true (.tmp 112)⟩, ⟨(some 114), (some (108, true)), .move (.tmp 0)⟩, ⟨(some 115), (some (108, true)), .move (.tmp 1)⟩, ⟨(some 116), (some (108, true)), .indexS 2 (.tmp 114) (.tmp 115)⟩, ⟨(some 117), (some (108, true)), .load 2 true (.tmp 116)⟩, ⟨(some 118), (some (108, true)), .callv false (.tmp 109) [(.tmp 113), (.tmp 117)]⟩, ⟨(some 119), (some (108, true)), .bin .lss none (.tmp 118) (.const (.int .i64 0))⟩, ⟨(some 120), none, .pick (.tmp 108) (.tmp 119) (.const (.bool false))⟩])
            (.cond (.tmp 120) .skip
            (.exit 6)))
            (.block 7 (.ops [⟨(some 121), none, .move (.tmp 12)⟩, ⟨(some 122), none, .bin .add none (.tmp 121) (.const (.int .i64 1))⟩, ⟨(some 12), none, .move (.tmp 122)⟩])))))
        (.seq (.block 8 (.loop false [0, 1, 4, 12, 13] (.seq (.seq (.ops [⟨(some 123), none, .move (.tmp 12)⟩, ⟨(some 124), none, .move (.tmp 13)⟩, ⟨(some 125), none, .bin .leq none (.tmp 123) (.tmp 124)⟩, ⟨(some 126), none, .move (.tmp 125)⟩, ⟨(some 127), (some (126, true)), .move (.tmp 4)⟩, ⟨(some 128), (some (126, true)), .move (.tmp 0)⟩, ⟨(some 129), (some (126, true)), .move (.tmp 13)⟩, ⟨(some 130), (some (126, true)), .indexS 2 (.tmp 128) (.tmp 129)⟩, ⟨(some 131), (some (126, true)), .load 2 true (.tmp 130)⟩, ⟨(some 132), (some (126, true)), .move (.tmp 0)⟩, ⟨(some 133), (some (126, true)), .move (.tmp 1)⟩, ⟨(some 134), (some (126, true)), .indexS 2 (.tmp 132) (.tmp 133)⟩, ⟨(some 135), (some (126, true)), .load 2 true (.tmp 134)⟩, ⟨(some 136), (some (126, true)), .callv false (.tmp 127) [(.tmp 131), (.tmp 135)]⟩, ⟨(some 137), (some (126, true)), .bin .lss none (.tmp 136) (.const (.int .i64 0))⟩, ⟨(some 138), (some (126, true)), .not (.tmp 137)⟩, ⟨(some 139), none, .pick (.tmp 126) (.tmp 138) (.const (.bool false))⟩])
            (.cond (.tmp 139) .skip
            (.exit 8)))
            (.block 9 (.ops [⟨(some 140), none, .move (.tmp 13)⟩, ⟨(some 141), none, .bin .sub none (.tmp 140) (.const (.int .i64 1))⟩, ⟨(some 13), none, .move (.tmp 141)⟩])))))
        (.seq (.seq (.ops [⟨(some 142), none, .move (.tmp 12)⟩, ⟨(some 143), none, .move (.tmp 13)⟩, ⟨(some 144), none, .bin .gtr none (.tmp 142) (.tmp 143)⟩])
        (.cond (.tmp 144) (.exit 4)
        .skip))
        (.seq (.ops [⟨(some 145), none, .move (.tmp 0)⟩, ⟨(some 146), none, .move (.tmp 12)⟩, ⟨(some 147), none, .move (.tmp 0)⟩, ⟨(some 148), none, .move (.tmp 13)⟩, ⟨(some 149), none, .move (.tmp 0)⟩, ⟨(some 150), none, .move (.tmp 13)⟩, ⟨(some 151), none, .indexS 2 (.tmp 149) (.tmp 150)⟩, ⟨(some 152), none, .load 2 true (.tmp 151)⟩, ⟨(some 153), none, .move (.tmp 0)⟩, ⟨(some 154), none, .move (.tmp 12)⟩, ⟨(some 155), none, .indexS 2 (.tmp 153) (.tmp 154)⟩, ⟨(some 156), none, .load 2 true (.tmp 155)⟩, ⟨(some 157), none, .indexS 2 (.tmp 145) (.tmp 146)⟩, ⟨none, none, .store 2 (.tmp 157) (.tmp 152)⟩, ⟨(some 158), none, .indexS 2 (.tmp 147) (.tmp 148)⟩, ⟨none, none, .store 2 (.tmp 158) (.tmp 156)⟩])
        (.seq (.ops [⟨(some 159), none, .move (.tmp 12)⟩, ⟨(some 160), none, .bin .add none (.tmp 159) (.const (.int .i64 1))⟩, ⟨(some 12), none, .move (.tmp 160)⟩])
        (.ops [⟨(some 161), none, .move (.tmp 13)⟩, ⟨(some 162), none, .bin .sub none (.tmp 161) (.const (.int .i64 1))⟩, ⟨(some 13), none, .move (.tmp 162)⟩])))))))))
  (.seq (.ops [⟨(some 163), none, .move (.tmp 0)⟩, ⟨(some 164), none, .move (.tmp 13)⟩, ⟨(some 165), none, .move (.tmp 0)⟩, ⟨(some 166), none, .move (.tmp 1)⟩, ⟨(some 167), none, .move (.tmp 0)⟩, ⟨(some 168), none, .move (.tmp 1)⟩, ⟨(some 169), none, .indexS 2 (.tmp 167) (.tmp 168)⟩, ⟨(some 170), none, .load 2 true (.tmp 169)⟩, ⟨(some 171), none, .move (.tmp 0)⟩, ⟨(some 172), none, .move (.tmp 13)⟩, ⟨(some 173), none, .indexS 2 (.tmp 171) (.tmp 172)⟩, ⟨(some 174), none, .load 2 true (.tmp 173)⟩, ⟨(some 175), none, .indexS 2 (.tmp 163) (.tmp 164)⟩, ⟨none, none, .store 2 (.tmp 175) (.tmp 170)⟩, ⟨(some 176), none, .indexS 2 (.tmp 165) (.tmp 166)⟩, ⟨none, none, .store 2 (.tmp 176) (.tmp 174)⟩])
  (.seq (.ops [⟨(some 177), none, .move (.tmp 13)⟩, ⟨(some 10), none, .move (.tmp 177)⟩, ⟨(some 11), none, .move (.const (.bool false))⟩])
  .ret)))))))))))), [(10, none), (11, none)]⟩
/-- cmp.isNaN[int] -/
def ir106 : IF := ⟨(.seq (.ops [⟨(some 2), none, .move (.const (.bool false))⟩])
  (.seq (.ops [⟨(some 3), none, .move (.tmp 0)⟩, ⟨(some 4), none, .move (.tmp 0)⟩, ⟨(some 5), none, .bin .neq none (.tmp 3) (.tmp 4)⟩, ⟨(some 2), none, .move (.tmp 5)⟩])
  .ret)), [(2, none)]⟩
/-- slices.siftDownCmpFunc[[2]int] -/
def ir107 : IF := ⟨(.seq (.ops [⟨(some 12), none, .move (.tmp 1)⟩, ⟨(some 10), none, .move (.tmp 12)⟩])
  (.block 0 (.loop false [0, 2, 3, 4, 10] (.block 1 (.seq (.ops [⟨(some 13), none, .move (.tmp 10)⟩, ⟨(some 14), none, .bin .mul none (.const (.int .i64 2)) (.tmp 13)⟩, ⟨(some 15), none, .bin .add none (.tmp 14) (.const (.int .i64 1))⟩, ⟨(some 11), none, .move (.tmp 15)⟩])
        (.seq (.seq (.ops [⟨(some 16), none, .move (.tmp 11)⟩, ⟨(some 17), none, .move (.tmp 2)⟩, ⟨(some 18), none, .bin .geq none (.tmp 16) (.tmp 17)⟩])
        (.cond (.tmp 18) (.exit 0)
        .skip))
        (.seq (.seq (.ops [⟨(some 19), none, .move (.tmp 11)⟩, ⟨(some 20), none, .bin .add none (.tmp 19) (.const (.int .i64 1))⟩, ⟨(some 21), none, .move (.tmp 2)⟩, ⟨(some 22), none, .bin .lss none (.tmp 20) (.tmp 21)⟩, ⟨(some 23), none, .move (.tmp 22)⟩, ⟨(some 24), (some (23, true)), .move (.tmp 4)⟩, ⟨(some 25), (some (23, true)), .move (.tmp 0)⟩, ⟨(some 26), (some (23, true)), .move (.tmp 3)⟩, ⟨(some 27), (some (23, true)), .move (.tmp 11)⟩, ⟨(some 28), (some (23, true)), .bin .add none (.tmp 26) (.tmp 27)⟩, ⟨(some 29), (some (23, true)), .indexS 2 (.tmp 25) (.tmp 28)⟩, ⟨(some 30), (some (23, true)), .load 2 true (.tmp 29)⟩, ⟨(some 31), (some (23, true)), .move (.tmp 0)⟩, ⟨(some 32), (some (23, true)), .move (.tmp 3)⟩, ⟨(some 33), (some (23, true)), .move (.tmp 11)⟩, ⟨(some 34), (some (23, true)), .bin .add none (.tmp 32) (.tmp 33)⟩, ⟨(some 35), (some (23, true)), .bin .add none (.tmp 34) (.const (.int .i64 1))⟩, ⟨(some 36), (some (23, true)), .indexS 2 (.tmp 31) (.tmp 35)⟩, ⟨(some 37), (some (23, true)), .load 2 true (.tmp 36)⟩, ⟨(some 38), (some (23, true)), .callv false (.tmp 24) [(.tmp 30), (.tmp 37)]⟩, ⟨(some 39), (some (23, true)), .bin .lss none (.tmp 38) (.const (.int .i64 0))⟩, ⟨(some 40), none, .pick (.tmp 23) (.tmp 39) (.const (.bool false))⟩])
        (.cond (.tmp 40) (.ops [⟨(some 41), none, .move (.tmp 11)⟩, ⟨(some 42), none, .bin .add none (.tmp 41) (.const (.int .i64 1))⟩, ⟨(some 11), none, .move (.tmp 42)⟩])
        .skip))
        (.seq (.seq (.ops [⟨(some 43), none, .move (.tmp 4)⟩, ⟨(some 44), none, .move (.tmp 0)⟩, ⟨(some 45), none, .move (.tmp 3)⟩, ⟨(some 46), none, .move (.tmp 10)⟩, ⟨(some 47), none, .bin .add none (.tmp 45) (.tmp 46)⟩, ⟨(some 48), none, .indexS 2 (.tmp 44) (.tmp 47)⟩, ⟨(some 49), none, .load 2 true (.tmp 48)⟩, ⟨(some 50), none, .move (.tmp 0)⟩, ⟨(some 51), none, .move (.tmp 3)⟩, ⟨(some 52), none, .move (.tmp 11)⟩, ⟨(some 53), none, .bin .add none (.tmp 51) (.tmp 52)⟩, ⟨(some 54), none, .indexS 2 (.tmp 50) (.tmp 53)⟩, ⟨(some 55), none, .load 2 true (.tmp 54)⟩, ⟨(some 56), none, .callv false (.tmp 43) [(.tmp 49), (.tmp 55)]⟩, ⟨(some 57), none, .bin .lss none (.tmp 56) (.const (.int .i64 0))⟩, ⟨(some 58), none, .not (.tmp 57)⟩])
        (.cond (.tmp 58) .ret
        .skip))
        (.seq (.ops [⟨(some 59), none, .move (.tmp 0)⟩, ⟨(some 60), none, .move (.tmp 3)⟩, ⟨(some 61), none, .move (.tmp 10)⟩, ⟨(some 62), none, .bin .add none (.tmp 60) (.tmp 61)⟩, ⟨(some 63), none, .move (.tmp 0)⟩, ⟨(some 64), none, .move (.tmp 3)⟩, ⟨(some 65), none, .move (.tmp 11)⟩, ⟨(some 66), none, .bin .add none (.tmp 64) (.tmp 65)⟩, ⟨(some 67), none, .move (.tmp 0)⟩, ⟨(some 68), none, .move (.tmp 3)⟩, ⟨(some 69), none, .move (.tmp 11)⟩, ⟨(some 70), none, .bin .add none (.tmp 68) (.tmp 69)⟩, ⟨(some 71), none, .indexS 2 (.tmp 67) (.tmp 70)⟩, ⟨(some 72), none, .load 2 true (.tmp 71)⟩, ⟨(some 73), none, .move (.tmp 0)⟩, ⟨(some 74), none, .move (.tmp 3)⟩, ⟨(some 75), none, .move (.tmp 10)⟩, ⟨(some 76), none, .bin .add none (.tmp 74) (.tmp 75)⟩, ⟨(some 77), none, .indexS 2 (.tmp 73) (.tmp 76)⟩, ⟨(some 78), none, .load 2 true (.tmp 77)⟩, ⟨(some 79), none, .indexS 2 (.tmp 59) (.tmp 62)⟩, ⟨none, none, .store 2 (.tmp 79) (.tmp 72)⟩, ⟨(some 80), none, .indexS 2 (.tmp 63) (.tmp 66)⟩, ⟨none, none, .store 2 (.tmp 80) (.tmp 78)⟩])
        (.ops [⟨(some 81), none, .move (.tmp 11)⟩, ⟨(some 10), none, .move (.tmp 81)⟩])))))))))), []⟩
/-- slices.nextPowerOfTwo -/
def ir108 : IF := ⟨(.seq (.ops [⟨(some 2), none, .move (.const (.int .u64 0))⟩])
  (.seq (.ops [⟨(some 3), none, .move (.tmp 0)⟩, ⟨(some 4), none, .conv .u64 (.tmp 3)⟩, ⟨(some 5), none, .call true 91 [(.tmp 4)]⟩, ⟨(some 6), none, .bin .shl none (.const (.int .u64 1)) (.tmp 5)⟩, ⟨(some 2), none, .move (.tmp 6)⟩])
  .ret)), [(2, none)]⟩
/-- (*slices.xorshift).Next -/
def ir109 : IF := ⟨(.seq (.ops [⟨(some 2), none, .move (.const (.int .u64 0))⟩])
  (.seq (.ops [⟨(some 3), none, .move (.tmp 0)⟩, ⟨(some 4), none, .nil (.tmp 3)⟩, ⟨(some 5), none, .load 1 false (.tmp 4)⟩, ⟨(some 6), none, .move (.tmp 0)⟩, ⟨(some 7), none, .nil (.tmp 6)⟩, ⟨(some 8), none, .load 1 false (.tmp 7)⟩, ⟨(some 9), none, .bin .shl none (.tmp 8) (.const (.int .u64 13))⟩, ⟨(some 10), none, .bin .xor none (.tmp 5) (.tmp 9)⟩, ⟨(some 11), none, .nil (.tmp 3)⟩, ⟨none, none, .store 1 (.tmp 11) (.tmp 10)⟩])
  (.seq (.ops [⟨(some 12), none, .move (.tmp 0)⟩, ⟨(some 13), none, .nil (.tmp 12)⟩, ⟨(some 14), none, .load 1 false (.tmp 13)⟩, ⟨(some 15), none, .move (.tmp 0)⟩, ⟨(some 16), none, .nil (.tmp 15)⟩, ⟨(some 17), none, .load 1 false (.tmp 16)⟩, ⟨(some 18), none, .bin .shr none (.tmp 17) (.const (.int .u64 7))⟩, ⟨(some 19), none, .bin .xor none (.tmp 14) (.tmp 18)⟩, ⟨(some 20), none, .nil (.tmp 12)⟩, ⟨none, none, .store 1 (.tmp 20) (.tmp 19)⟩])
  (.seq (.ops [⟨(some 21), none, .move (.tmp 0)⟩, ⟨(some 22), none, .nil (.tmp 21)⟩, ⟨(some 23), none, .load 1 false (.tmp 22)⟩, ⟨(some 24), none, .move (.tmp 0)⟩, ⟨(some 25), none, .nil (.tmp 24)⟩, ⟨(some 26), none, .load 1 false (.tmp 25)⟩, ⟨(some 27), none, .bin .shl none (.tmp 26) (.const (.int .u64 17))⟩, ⟨(some 28), none, .bin .xor none (.tmp 23) (.tmp 27)⟩, ⟨(some 29), none, .nil (.tmp 21)⟩, ⟨none, none, .store 1 (.tmp 29) (.tmp 28)⟩])
  (.seq (.ops [⟨(some 30), none, .move (.tmp 0)⟩, ⟨(some 31), none, .nil (.tmp 30)⟩, ⟨(some 32), none, .load 1 false (.tmp 31)⟩, ⟨(some 2), none, .move (.tmp 32)⟩])
  .ret))))), [(2, none)]⟩
/-- slices.medianAdjacentCmpFunc[[2]int] -/
def ir110 : IF := ⟨(.seq (.ops [⟨(some 8), none, .move (.const (.int .i64 0))⟩])
  (.seq (.ops [⟨(some 9), none, .move (.tmp 0)⟩, ⟨(some 10), none, .move (.tmp 1)⟩, ⟨(some 11), none, .bin .sub none (.tmp 10) (.const (.int .i64 1))⟩, ⟨(some 12), none, .move (.tmp 1)⟩, ⟨(some 13), none, .move (.tmp 1)⟩, ⟨(some 14), none, .bin .add none (.tmp 13) (.const (.int .i64 1))⟩, ⟨(some 15), none, .move (.tmp 2)⟩, ⟨(some 16), none, .move (.tmp 3)⟩, ⟨(some 17), none, .call false 111 [(.tmp 9), (.tmp 11), (.tmp 12), (.tmp 14), (.tmp 15), (.tmp 16)]⟩, ⟨(some 8), none, .move (.tmp 17)⟩])
  .ret)), [(8, none)]⟩
/-- slices.medianCmpFunc[[2]int] -/
def ir111 : IF := ⟨(.seq (.ops [⟨(some 12), none, .move (.const (.int .i64 0))⟩])
  (.seq (.ops [⟨(some 14), none, .move (.tmp 0)⟩, ⟨(some 15), none, .move (.tmp 1)⟩, ⟨(some 16), none, .move (.tmp 2)⟩, ⟨(some 17), none, .move (.tmp 4)⟩, ⟨(some 18), none, .move (.tmp 5)⟩, ⟨(some 19), none, .call false 112 [(.tmp 14), (.tmp 15), (.tmp 16), (.tmp 17), (.tmp 18)]⟩, ⟨(some 13), none, .move (.tmp 19)⟩, ⟨(some 20), none, .extract 0 (.tmp 13)⟩, ⟨(some 21), none, .extract 1 (.tmp 13)⟩, ⟨(some 1), none, .move (.tmp 20)⟩, ⟨(some 2), none, .move (.tmp 21)⟩])
  (.seq (.ops [⟨(some 23), none, .move (.tmp 0)⟩, ⟨(some 24), none, .move (.tmp 2)⟩, ⟨(some 25), none, .move (.tmp 3)⟩, ⟨(some 26), none, .move (.tmp 4)⟩, ⟨(some 27), none, .move (.tmp 5)⟩, ⟨(some 28), none, .call false 112 [(.tmp 23), (.tmp 24), (.tmp 25), (.tmp 26), (.tmp 27)]⟩, ⟨(some 22), none, .move (.tmp 28)⟩, ⟨(some 29), none, .extract 0 (.tmp 22)⟩, ⟨(some 30), none, .extract 1 (.tmp 22)⟩, ⟨(some 2), none, .move (.tmp 29)⟩, ⟨(some 3), none, .move (.tmp 30)⟩])
  (.seq (.ops [⟨(some 32), none, .move (.tmp 0)⟩, ⟨(some 33), none, .move (.tmp 1)⟩, ⟨(some 34), none, .move (.tmp 2)⟩, ⟨(some 35), none, .move (.tmp 4)⟩, ⟨(some 36), none, .move (.tmp 5)⟩, ⟨(some 37), none, .call false 112 [(.tmp 32), (.tmp 33), (.tmp 34), (.tmp 35), (.tmp 36)]⟩, ⟨(some 31), none, .move (.tmp 37)⟩, ⟨(some 38), none, .extract 0 (.tmp 31)⟩, ⟨(some 39), none, .extract 1 (.tmp 31)⟩, ⟨(some 1), none, .move (.tmp 38)⟩, ⟨(some 2), none, .move (.tmp 39)⟩])
  (.seq (.ops [⟨(some 40), none, .move (.tmp 2)⟩, ⟨(some 12), none, .move (.tmp 40)⟩])
  .ret))))), [(12, none)]⟩
/-- slices.order2CmpFunc[[2]int] -/
def ir112 : IF := ⟨(.seq (.ops [⟨(some 10), none, .move (.const (.int .i64 0))⟩, ⟨(some 11), none, .move (.const (.int .i64 0))⟩])
  (.seq (.seq (.ops [⟨(some 12), none, .move (.tmp 4)⟩, ⟨(some 13), none, .move (.tmp 0)⟩, ⟨(some 14), none, .move (.tmp 2)⟩, ⟨(some 15), none, .indexS 2 (.tmp 13) (.tmp 14)⟩, ⟨(some 16), none, .load 2 true (.tmp 15)⟩, ⟨(some 17), none, .move (.tmp 0)⟩, ⟨(some 18), none, .move (.tmp 1)⟩, ⟨(some 19), none, .indexS 2 (.tmp 17) (.tmp 18)⟩, ⟨(some 20), none, .load 2 true (.tmp 19)⟩, ⟨(some 21), none, .callv false (.tmp 12) [(.tmp 16), (.tmp 20)]⟩, ⟨(some 22), none, .bin .lss none (.tmp 21) (.const (.int .i64 0))⟩])
  (.cond (.tmp 22) (.seq (.ops [⟨(some 23), none, .move (.tmp 3)⟩, ⟨(some 24), none, .nil (.tmp 23)⟩, ⟨(some 25), none, .load 1 false (.tmp 24)⟩, ⟨(some 26), none, .bin .add none (.tmp 25) (.const (.int .i64 1))⟩, ⟨(some 27), none, .nil (.tmp 23)⟩, ⟨none, none, .store 1 (.tmp 27) (.tmp 26)⟩])
    (.seq (.ops [⟨(some 28), none, .move (.tmp 2)⟩, ⟨(some 29), none, .move (.tmp 1)⟩, ⟨(some 10), none, .move (.tmp 28)⟩, ⟨(some 11), none, .move (.tmp 29)⟩])
    .ret))
  .skip))
  (.seq (.ops [⟨(some 30), none, .move (.tmp 1)⟩, ⟨(some 31), none, .move (.tmp 2)⟩, ⟨(some 10), none, .move (.tmp 30)⟩, ⟨(some 11), none, .move (.tmp 31)⟩])
  .ret))), [(10, none), (11, none)]⟩
end Go.Proofs.Ytiifibgadipalaa.Vm
