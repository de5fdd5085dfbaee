/- What stands here: functions of this program in the form that the evaluator runs. No condition: a later text proves that they are what the program holds. -/
import Derived.Test.YtpmbfgogpcjdlaaDoorIr1
set_option linter.all false
namespace Go.Proofs.YtpmbfgogpcjdlaaDoor.Vm
open Go Go.Ev
set_option maxRecDepth 100000
/-- slices.Index[[][2]int,[2]int] -/
def lp106_0 : IC := (.seq (.ops [⟨(some 9), none, .bin .lss none (.tmp 8) (.tmp 7)⟩])
  (.seq (.cond (.tmp 9) .skip
  (.exit 0))
  (.seq (.block 1 (.seq (.ops [⟨(some 10), none, .move (.tmp 8)⟩, ⟨(some 5), none, .move (.tmp 10)⟩])
    (.seq (.ops [⟨(some 11), none, .load 2 true (.tmp 3)⟩, ⟨(some 12), none, .move (.tmp 0)⟩, ⟨(some 13), none, .move (.tmp 5)⟩, ⟨(some 14), none, .indexS 2 (.tmp 12) (.tmp 13)⟩, ⟨(some 15), none, .load 2 true (.tmp 14)⟩, ⟨(some 16), none, .bin .eql (some 4) (.tmp 11) (.tmp 15)⟩])
    (.cond (.tmp 16) (.seq (.ops [⟨(some 17), none, .move (.tmp 5)⟩, ⟨(some 4), none, .move (.tmp 17)⟩])
      .ret)
    .skip))))
  (.ops [⟨(some 18), none, .bin .add none (.tmp 8) (.const (.int .i64 1))⟩, ⟨(some 8), none, .move (.tmp 18)⟩]))))
def ir106 : IF := ⟨(.seq (.ops [⟨(some 3), none, .box (.tmp 1)⟩, ⟨(some 4), none, .move (.const (.int .i64 0))⟩])
  (.seq (.seq (.ops [⟨(some 6), none, .move (.tmp 0)⟩, ⟨(some 7), none, .len (.tmp 6)⟩, ⟨(some 8), none, .move (.const (.int .i64 0))⟩])
  (.block 0 (.loop true [0, 3, 7, 8] lp106_0)))
  (.seq (.ops [⟨(some 4), none, .move (.const (.int .i64 (-1)))⟩])
  .ret))), [(4, none)]⟩
/-- (headword/fact.Book).explained$1 -/
def ir107 : IF := ⟨(.seq (.ops [⟨(some 2), none, .box (.tmp 0)⟩, ⟨(some 3), none, .move (.const (.bool false))⟩])
  (.seq (.ops [⟨(some 4), none, .load 1 false (.tmp 1)⟩, ⟨(some 5), none, .indexA 2 1 (.tmp 2) (.const (.int .i64 0))⟩, ⟨(some 6), none, .load 1 false (.tmp 5)⟩, ⟨(some 7), none, .bin .shr none (.tmp 4) (.tmp 6)⟩, ⟨(some 8), none, .bin .and none (.tmp 7) (.const (.int .u64 1))⟩, ⟨(some 9), none, .bin .eql none (.tmp 8) (.const (.int .u64 0))⟩, ⟨(some 10), none, .move (.tmp 9)⟩, ⟨(some 11), (some (10, true)), .load 1 false (.tmp 1)⟩, ⟨(some 12), (some (10, true)), .indexA 2 1 (.tmp 2) (.const (.int .i64 1))⟩, ⟨(some 13), (some (10, true)), .load 1 false (.tmp 12)⟩, ⟨(some 14), (some (10, true)), .bin .shr none (.tmp 11) (.tmp 13)⟩, ⟨(some 15), (some (10, true)), .bin .and none (.tmp 14) (.const (.int .u64 1))⟩, ⟨(some 16), (some (10, true)), .bin .eql none (.tmp 15) (.const (.int .u64 0))⟩, ⟨(some 17), none, .pick (.tmp 10) (.tmp 16) (.const (.bool false))⟩, ⟨(some 3), none, .move (.tmp 17)⟩])
  .ret)), [(3, none)]⟩
/-- math/bits.OnesCount -/
def ir108 : IF := ⟨(.seq (.ops [⟨(some 2), none, .move (.const (.int .i64 0))⟩])
  (.seq (.cond (.const (.bool false)) (.seq (.ops [⟨(some 3), none, .move (.tmp 0)⟩, ⟨(some 4), none, .conv .u32 (.tmp 3)⟩, ⟨(some 5), none, .call true 136 [(.tmp 4)]⟩, ⟨(some 2), none, .move (.tmp 5)⟩])
    .ret)
  .skip)
  (.seq (.ops [⟨(some 6), none, .move (.tmp 0)⟩, ⟨(some 7), none, .call true 137 [(.tmp 6)]⟩, ⟨(some 2), none, .move (.tmp 7)⟩])
  .ret))), [(2, none)]⟩
/-- headword/fact.numbers -/
def lp109_0 : IC := (.seq (.ops [⟨(some 16), none, .bin .lss none (.tmp 15) (.tmp 14)⟩])
  (.seq (.cond (.tmp 16) .skip
  (.exit 0))
  (.seq (.block 1 (.seq (.ops [⟨(some 17), none, .indexS 1 (.tmp 13) (.tmp 15)⟩, ⟨(some 18), none, .load 1 false (.tmp 17)⟩, ⟨(some 8), none, .move (.tmp 18)⟩])
    (.seq (.seq (.ops [⟨(some 19), none, .move (.tmp 8)⟩, ⟨(some 20), none, .bin .lss none (.tmp 19) (.const (.int .i64 0))⟩, ⟨(some 21), none, .move (.tmp 20)⟩, ⟨(some 22), (some (21, false)), .move (.tmp 8)⟩, ⟨(some 23), (some (21, false)), .bin .gtr none (.tmp 22) (.const (.int .i64 2))⟩, ⟨(some 24), none, .pick (.tmp 21) (.const (.bool true)) (.tmp 23)⟩])
    (.cond (.tmp 24) (.seq (.ops [⟨(some 4), none, .move (.const (.int .i64 0))⟩, ⟨(some 5), none, .move (.const (.int .i64 1))⟩])
      .ret)
    .skip))
    (.ops [⟨(some 25), none, .move (.tmp 6)⟩, ⟨(some 26), none, .move (.tmp 8)⟩, ⟨(some 27), none, .bin .add none (.tmp 25) (.tmp 26)⟩, ⟨(some 6), none, .move (.tmp 27)⟩]))))
  (.ops [⟨(some 28), none, .bin .add none (.tmp 15) (.const (.int .i64 1))⟩, ⟨(some 15), none, .move (.tmp 28)⟩]))))
def ir109 : IF := ⟨(.seq (.ops [⟨(some 4), none, .move (.const (.int .i64 0))⟩, ⟨(some 5), none, .move (.const (.int .i64 0))⟩])
  (.seq (.seq (.ops [⟨(some 9), none, .move (.tmp 0)⟩, ⟨(some 10), none, .len (.tmp 9)⟩, ⟨(some 11), none, .move (.tmp 1)⟩, ⟨(some 12), none, .bin .neq none (.tmp 10) (.tmp 11)⟩])
  (.cond (.tmp 12) (.seq (.ops [⟨(some 4), none, .move (.const (.int .i64 0))⟩, ⟨(some 5), none, .move (.const (.int .i64 5))⟩])
    .ret)
  .skip))
  (.seq (.ops [⟨(some 6), none, .move (.const (.int .i64 0))⟩])
  (.seq (.seq (.ops [⟨(some 13), none, .move (.tmp 0)⟩, ⟨(some 14), none, .len (.tmp 13)⟩, ⟨(some 15), none, .move (.const (.int .i64 0))⟩])
  (.block 0 (.loop true [6, 13, 14, 15] lp109_0)))
  (.seq (.ops [⟨(some 29), none, .move (.tmp 6)⟩, ⟨(some 4), none, .move (.tmp 29)⟩, ⟨(some 5), none, .move (.const (.int .i64 0))⟩])
  .ret))))), [(4, none), (5, none)]⟩
/-- cmp.Less[int] -/
def ir110 : IF := ⟨(.seq (.ops [⟨(some 4), none, .move (.const (.bool false))⟩])
  (.seq (.ops [⟨(some 5), none, .move (.tmp 0)⟩, ⟨(some 6), none, .call true 127 [(.tmp 5)]⟩, ⟨(some 7), none, .move (.tmp 6)⟩, ⟨(some 8), (some (7, true)), .move (.tmp 1)⟩, ⟨(some 9), (some (7, true)), .call true 127 [(.tmp 8)]⟩, ⟨(some 10), (some (7, true)), .not (.tmp 9)⟩, ⟨(some 11), none, .pick (.tmp 7) (.tmp 10) (.const (.bool false))⟩, ⟨(some 12), none, .move (.tmp 11)⟩, ⟨(some 13), (some (12, false)), .move (.tmp 0)⟩, ⟨(some 14), (some (12, false)), .move (.tmp 1)⟩, ⟨(some 15), (some (12, false)), .bin .lss none (.tmp 13) (.tmp 14)⟩, ⟨(some 16), none, .pick (.tmp 12) (.const (.bool true)) (.tmp 15)⟩, ⟨(some 4), none, .move (.tmp 16)⟩])
  .ret)), [(4, none)]⟩
/-- slices.isNaN[int] -/
def ir111 : IF := ⟨(.seq (.ops [⟨(some 2), none, .move (.const (.bool false))⟩])
  (.seq (.ops [⟨(some 3), none, .move (.tmp 0)⟩, ⟨(some 4), none, .move (.tmp 0)⟩, ⟨(some 5), none, .bin .neq none (.tmp 3) (.tmp 4)⟩, ⟨(some 2), none, .move (.tmp 5)⟩])
  .ret)), [(2, none)]⟩
/-- (headword/fact.Book).shares$1 -/
def lp112_0 : IC := (.seq (.ops [⟨(some 26), none, .bin .lss none (.tmp 25) (.tmp 24)⟩])
  (.seq (.cond (.tmp 26) .skip
  (.exit 0))
  (.seq (.block 1 (.seq (.ops [⟨(some 27), none, .indexS 1 (.tmp 23) (.tmp 25)⟩, ⟨(some 28), none, .load 1 false (.tmp 27)⟩, ⟨(some 11), none, .move (.tmp 28)⟩])
    (.ops [⟨(some 29), none, .move (.tmp 9)⟩, ⟨(some 30), none, .move (.tmp 11)⟩, ⟨(some 31), none, .bin .add none (.tmp 29) (.tmp 30)⟩, ⟨(some 9), none, .move (.tmp 31)⟩])))
  (.ops [⟨(some 32), none, .bin .add none (.tmp 25) (.const (.int .i64 1))⟩, ⟨(some 25), none, .move (.tmp 32)⟩]))))
def lp112_1 : IC := (.seq (.ops [⟨(some 54), none, .bin .lss none (.tmp 53) (.tmp 52)⟩])
  (.seq (.cond (.tmp 54) .skip
  (.exit 2))
  (.seq (.block 3 (.seq (.ops [⟨(some 55), none, .move (.tmp 53)⟩, ⟨(some 13), none, .move (.tmp 55)⟩])
    (.seq (.ops [⟨(some 56), none, .load 1 false (.tmp 4)⟩, ⟨(some 57), none, .move (.tmp 13)⟩, ⟨(some 58), none, .lit 1 false (.v (.int .i64 0)) 1 [(0, (.tmp 57))]⟩, ⟨(some 59), none, .appendm 1 false (.tmp 56) (.tmp 58)⟩, ⟨none, none, .store 1 (.tmp 4) (.tmp 59)⟩])
    (.seq (.ops [⟨(some 60), none, .indexA 2 1 (.tmp 12) (.const (.int .i64 0))⟩, ⟨(some 61), none, .loadp [12] 1 false (.tmp 60)⟩, ⟨(some 62), none, .indexA 2 1 (.tmp 12) (.const (.int .i64 1))⟩, ⟨(some 63), none, .loadp [12] 1 false (.tmp 62)⟩, ⟨(some 64), none, .indexA 2 1 (.tmp 12) (.const (.int .i64 0))⟩, ⟨(some 65), none, .loadp [12] 1 false (.tmp 64)⟩, ⟨(some 66), none, .indexA 7 1 (.tmp 3) (.tmp 65)⟩, ⟨(some 67), none, .load 1 false (.tmp 66)⟩, ⟨(some 68), none, .move (.tmp 13)⟩, ⟨(some 69), none, .bin .sub none (.tmp 67) (.tmp 68)⟩, ⟨(some 70), none, .indexA 2 1 (.tmp 12) (.const (.int .i64 1))⟩, ⟨(some 71), none, .loadp [12] 1 false (.tmp 70)⟩, ⟨(some 72), none, .indexA 7 1 (.tmp 3) (.tmp 71)⟩, ⟨(some 73), none, .load 1 false (.tmp 72)⟩, ⟨(some 74), none, .move (.tmp 13)⟩, ⟨(some 75), none, .bin .sub none (.tmp 73) (.tmp 74)⟩, ⟨(some 76), none, .indexA 7 1 (.tmp 3) (.tmp 61)⟩, ⟨none, none, .storeq [12] 1 (.tmp 76) (.tmp 69)⟩, ⟨(some 77), none, .indexA 7 1 (.tmp 3) (.tmp 63)⟩, ⟨none, none, .storeq [12] 1 (.tmp 77) (.tmp 75)⟩])
    (.seq (.seq (.ops [⟨(some 78), none, .load 1 false (.tmp 5)⟩, ⟨(some 79), none, .move (.tmp 0)⟩, ⟨(some 80), none, .bin .add none (.tmp 79) (.const (.int .i64 1))⟩, ⟨(some 81), none, .move (.tmp 1)⟩, ⟨(some 82), none, .move (.tmp 13)⟩, ⟨(some 83), none, .bin .sub none (.tmp 81) (.tmp 82)⟩, ⟨(some 84), none, .callv false (.tmp 78) [(.tmp 80), (.tmp 83)]⟩])
    (.cond (.tmp 84) (.seq (.ops [⟨(some 8), none, .move (.const (.bool true))⟩])
      .ret)
    .skip))
    (.seq (.ops [⟨(some 85), none, .indexA 2 1 (.tmp 12) (.const (.int .i64 0))⟩, ⟨(some 86), none, .loadp [12] 1 false (.tmp 85)⟩, ⟨(some 87), none, .indexA 2 1 (.tmp 12) (.const (.int .i64 1))⟩, ⟨(some 88), none, .loadp [12] 1 false (.tmp 87)⟩, ⟨(some 89), none, .indexA 2 1 (.tmp 12) (.const (.int .i64 0))⟩, ⟨(some 90), none, .loadp [12] 1 false (.tmp 89)⟩, ⟨(some 91), none, .indexA 7 1 (.tmp 3) (.tmp 90)⟩, ⟨(some 92), none, .load 1 false (.tmp 91)⟩, ⟨(some 93), none, .move (.tmp 13)⟩, ⟨(some 94), none, .bin .add none (.tmp 92) (.tmp 93)⟩, ⟨(some 95), none, .indexA 2 1 (.tmp 12) (.const (.int .i64 1))⟩, ⟨(some 96), none, .loadp [12] 1 false (.tmp 95)⟩, ⟨(some 97), none, .indexA 7 1 (.tmp 3) (.tmp 96)⟩, ⟨(some 98), none, .load 1 false (.tmp 97)⟩, ⟨(some 99), none, .move (.tmp 13)⟩, ⟨(some 100), none, .bin .add none (.tmp 98) (.tmp 99)⟩, ⟨(some 101), none, .indexA 7 1 (.tmp 3) (.tmp 86)⟩, ⟨none, none, .storeq [12] 1 (.tmp 101) (.tmp 94)⟩, ⟨(some 102), none, .indexA 7 1 (.tmp 3) (.tmp 88)⟩, ⟨none, none, .storeq [12] 1 (.tmp 102) (.tmp 100)⟩])
    (.ops [⟨(some 103), none, .load 1 false (.tmp 4)⟩, ⟨(some 104), none, .load 1 false (.tmp 4)⟩, ⟨(some 105), none, .len (.tmp 104)⟩, ⟨(some 106), none, .bin .sub none (.tmp 105) (.const (.int .i64 1))⟩, ⟨(some 107), none, .slice 1 (.tmp 103) none (some (.tmp 106)) none⟩, ⟨none, none, .store 1 (.tmp 4) (.tmp 107)⟩])))))))
  (.ops [⟨(some 108), none, .bin .add none (.tmp 53) (.const (.int .i64 1))⟩, ⟨(some 53), none, .move (.tmp 108)⟩]))))
def ir112 : IF := ⟨(.seq (.ops [⟨(some 8), none, .move (.const (.bool false))⟩])
  (.seq (.seq (.ops [⟨(some 14), none, .move (.tmp 0)⟩, ⟨(some 15), none, .fieldAddr 1 (.tmp 2)⟩, ⟨(some 16), none, .load 1 false (.tmp 15)⟩, ⟨(some 17), none, .len (.tmp 16)⟩, ⟨(some 18), none, .bin .eql none (.tmp 14) (.tmp 17)⟩])
  (.cond (.tmp 18) (.seq (.ops [⟨(some 19), none, .move (.tmp 1)⟩, ⟨(some 20), none, .bin .eql none (.tmp 19) (.const (.int .i64 0))⟩, ⟨(some 8), none, .move (.tmp 20)⟩])
    .ret)
  .skip))
  (.seq (.ops [⟨(some 9), none, .move (.const (.int .i64 0))⟩])
  (.seq (.seq (.ops [⟨(some 21), none, .fieldAddr 0 (.tmp 2)⟩, ⟨(some 22), none, .load 1 false (.tmp 21)⟩, ⟨(some 23), none, .slicea 7 1 false (.tmp 3) none (some (.tmp 22)) none⟩, ⟨(some 24), none, .len (.tmp 23)⟩, ⟨(some 25), none, .move (.const (.int .i64 0))⟩])
  (.block 0 (.loop false [0, 1, 2, 3, 4, 5, 9, 23, 24, 25] lp112_0)))
  (.seq (.seq (.ops [⟨(some 33), none, .move (.tmp 1)⟩, ⟨(some 34), none, .bin .mul none (.const (.int .i64 2)) (.tmp 33)⟩, ⟨(some 35), none, .move (.tmp 9)⟩, ⟨(some 36), none, .bin .gtr none (.tmp 34) (.tmp 35)⟩])
  (.cond (.tmp 36) (.seq (.ops [⟨(some 8), none, .move (.const (.bool false))⟩])
    .ret)
  .skip))
  (.seq (.ops [⟨(some 37), none, .fieldAddr 1 (.tmp 2)⟩, ⟨(some 38), none, .load 1 false (.tmp 37)⟩, ⟨(some 39), none, .move (.tmp 0)⟩, ⟨(some 40), none, .indexS 2 (.tmp 38) (.tmp 39)⟩, ⟨(some 41), none, .load 2 true (.tmp 40)⟩, ⟨(some 12), none, .alloc [(.v (.int .i64 0)), (.v (.int .i64 0))]⟩, ⟨none, none, .store 2 (.tmp 12) (.tmp 41)⟩])
  (.seq (.seq (.ops [⟨(some 42), none, .indexA 2 1 (.tmp 12) (.const (.int .i64 0))⟩, ⟨(some 43), none, .load 1 false (.tmp 42)⟩, ⟨(some 44), none, .indexA 7 1 (.tmp 3) (.tmp 43)⟩, ⟨(some 45), none, .load 1 false (.tmp 44)⟩, ⟨(some 46), none, .indexA 2 1 (.tmp 12) (.const (.int .i64 1))⟩, ⟨(some 47), none, .load 1 false (.tmp 46)⟩, ⟨(some 48), none, .indexA 7 1 (.tmp 3) (.tmp 47)⟩, ⟨(some 49), none, .load 1 false (.tmp 48)⟩, ⟨(some 50), none, .move (.tmp 1)⟩, ⟨(some 51), none, .min3 (.tmp 45) (.tmp 49) (.tmp 50)⟩, ⟨(some 52), none, .bin .add none (.tmp 51) (.const (.int .i64 1))⟩, ⟨(some 53), none, .move (.const (.int .i64 0))⟩])
  (.block 2 (.loop false [0, 1, 3, 4, 5, 12, 52, 53] lp112_1)))
  (.seq (.ops [⟨(some 8), none, .move (.const (.bool false))⟩])
  .ret)))))))), [(8, none)]⟩
/-- math/bits.TrailingZeros64 -/
def ir115 : IF := ⟨(.seq (.ops [⟨(some 2), none, .move (.const (.int .i64 0))⟩])
  (.seq (.seq (.ops [⟨(some 3), none, .move (.tmp 0)⟩, ⟨(some 4), none, .bin .eql none (.tmp 3) (.const (.int .u64 0))⟩])
  (.cond (.tmp 4) (.seq (.ops [⟨(some 2), none, .move (.const (.int .i64 64))⟩])
    .ret)
  .skip))
  (.seq (.ops [⟨(some 5), none, .move (.tmp 0)⟩, ⟨(some 6), none, .move (.tmp 0)⟩, ⟨(some 7), none, .neg (.tmp 6)⟩, ⟨(some 8), none, .bin .and none (.tmp 5) (.tmp 7)⟩, ⟨(some 9), none, .bin .mul none (.tmp 8) (.const (.int .u64 285870213051353865))⟩, ⟨(some 10), none, .bin .shr none (.tmp 9) (.const (.int .u64 58))⟩, ⟨(some 11), none, .indexG 1 64 1 [0, 1, 56, 2, 57, 49, 28, 3, 61, 58, 42, 50, 38, 29, 17, 4, 62, 47, 59, 36, 45, 43, 51, 22, 53, 39, 33, 30, 24, 18, 12, 5, 63, 55, 48, 27, 60, 41, 37, 16, 46, 35, 44, 21, 52, 32, 23, 11, 54, 26, 40, 15, 34, 20, 31, 10, 25, 14, 19, 9, 13, 8, 7, 6] (.tmp 10)⟩, ⟨(some 12), none, .load 1 false (.tmp 11)⟩, ⟨(some 13), none, .conv .i64 (.tmp 12)⟩, ⟨(some 2), none, .move (.tmp 13)⟩])
  .ret))), [(2, none)]⟩
/-- math/bits.Len32 -/
def ir125 : IF := ⟨(.seq (.ops [⟨(some 2), none, .move (.const (.int .i64 0))⟩])
  (.seq (.seq (.ops [⟨(some 3), none, .move (.tmp 0)⟩, ⟨(some 4), none, .bin .geq none (.tmp 3) (.const (.int .u32 65536))⟩])
  (.cond (.tmp 4) (.seq (.ops [⟨(some 5), none, .move (.tmp 0)⟩, ⟨(some 6), none, .bin .shr none (.tmp 5) (.const (.int .u64 16))⟩, ⟨(some 0), none, .move (.tmp 6)⟩])
    (.ops [⟨(some 2), none, .move (.const (.int .i64 16))⟩]))
  .skip))
  (.seq (.seq (.ops [⟨(some 7), none, .move (.tmp 0)⟩, ⟨(some 8), none, .bin .geq none (.tmp 7) (.const (.int .u32 256))⟩])
  (.cond (.tmp 8) (.seq (.ops [⟨(some 9), none, .move (.tmp 0)⟩, ⟨(some 10), none, .bin .shr none (.tmp 9) (.const (.int .u64 8))⟩, ⟨(some 0), none, .move (.tmp 10)⟩])
    (.ops [⟨(some 11), none, .move (.tmp 2)⟩, ⟨(some 12), none, .bin .add none (.tmp 11) (.const (.int .i64 8))⟩, ⟨(some 2), none, .move (.tmp 12)⟩]))
  .skip))
  (.seq (.ops [⟨(some 13), none, .move (.tmp 2)⟩, ⟨(some 14), none, .move (.tmp 0)⟩, ⟨(some 15), none, .conv .u8 (.tmp 14)⟩, ⟨(some 16), none, .indexStr (.const (.string ⟨#[0, 1, 2, 2, 3, 3, 3, 3, 4, 4, 4, 4, 4, 4, 4, 4, 5, 5, 5, 5, 5, 5, 5, 5, 5, 5, 5, 5, 5, 5, 5, 5, 6, 6, 6, 6, 6, 6, 6, 6, 6, 6, 6, 6, 6, 6, 6, 6, 6, 6, 6, 6, 6, 6, 6, 6, 6, 6, 6, 6, 6, 6, 6, 6, 7, 7, 7, 7, 7, 7, 7, 7, 7, 7, 7, 7, 7, 7, 7, 7, 7, 7, 7, 7, 7, 7, 7, 7, 7, 7, 7, 7, 7, 7, 7, 7, 7, 7, 7, 7, 7, 7, 7, 7, 7, 7, 7, 7, 7, 7, 7, 7, 7, 7, 7, 7, 7, 7, 7, 7, 7, 7, 7, 7, 7, 7, 7, 7, 8, 8, 8, 8, 8, 8, 8, 8, 8, 8, 8, 8, 8, 8, 8, 8, 8, 8, 8, 8, 8, 8, 8, 8, 8, 8, 8, 8, 8, 8, 8, 8, 8, 8, 8, 8, 8, 8, 8, 8, 8, 8, 8, 8, 8, 8, 8, 8, 8, 8, 8, 8, 8, 8, 8, 8, 8, 8, 8, 8, 8, 8, 8, 8, 8, 8, 8, 8, 8, 8, 8, 8, 8, 8, 8, 8, 8, 8, 8, 8, 8, 8, 8, 8, 8, 8, 8, 8, 8, 8, 8, 8, 8, 8, 8, 8, 8, 8, 8, 8, 8, 8, 8, 8, 8, 8, 8, 8, 8, 8, 8, 8, 8, 8, 8, 8, 8, 8, 8, 8, 8, 8, 8, 8, 8, 8, 8, 8]⟩)) (.tmp 15)⟩, ⟨(some 17), none, .conv .i64 (.tmp 16)⟩, ⟨(some 18), none, .bin .add none (.tmp 13) (.tmp 17)⟩, ⟨(some 2), none, .move (.tmp 18)⟩])
  .ret)))), [(2, none)]⟩
/-- math/bits.Len64 -/
def ir126 : IF := ⟨(.seq (.ops [⟨(some 2), none, .move (.const (.int .i64 0))⟩])
  (.seq (.seq (.ops [⟨(some 3), none, .move (.tmp 0)⟩, ⟨(some 4), none, .bin .geq none (.tmp 3) (.const (.int .u64 4294967296))⟩])
  (.cond (.tmp 4) (.seq (.ops [⟨(some 5), none, .move (.tmp 0)⟩, ⟨(some 6), none, .bin .shr none (.tmp 5) (.const (.int .u64 32))⟩, ⟨(some 0), none, .move (.tmp 6)⟩])
    (.ops [⟨(some 2), none, .move (.const (.int .i64 32))⟩]))
  .skip))
  (.seq (.seq (.ops [⟨(some 7), none, .move (.tmp 0)⟩, ⟨(some 8), none, .bin .geq none (.tmp 7) (.const (.int .u64 65536))⟩])
  (.cond (.tmp 8) (.seq (.ops [⟨(some 9), none, .move (.tmp 0)⟩, ⟨(some 10), none, .bin .shr none (.tmp 9) (.const (.int .u64 16))⟩, ⟨(some 0), none, .move (.tmp 10)⟩])
    (.ops [⟨(some 11), none, .move (.tmp 2)⟩, ⟨(some 12), none, .bin .add none (.tmp 11) (.const (.int .i64 16))⟩, ⟨(some 2), none, .move (.tmp 12)⟩]))
  .skip))
  (.seq (.seq (.ops [⟨(some 13), none, .move (.tmp 0)⟩, ⟨(some 14), none, .bin .geq none (.tmp 13) (.const (.int .u64 256))⟩])
  (.cond (.tmp 14) (.seq (.ops [⟨(some 15), none, .move (.tmp 0)⟩, ⟨(some 16), none, .bin .shr none (.tmp 15) (.const (.int .u64 8))⟩, ⟨(some 0), none, .move (.tmp 16)⟩])
    (.ops [⟨(some 17), none, .move (.tmp 2)⟩, ⟨(some 18), none, .bin .add none (.tmp 17) (.const (.int .i64 8))⟩, ⟨(some 2), none, .move (.tmp 18)⟩]))
  .skip))
  (.seq (.ops [⟨(some 19), none, .move (.tmp 2)⟩, ⟨(some 20), none, .move (.tmp 0)⟩, ⟨(some 21), none, .conv .u8 (.tmp 20)⟩, ⟨(some 22), none, .indexStr (.const (.string ⟨#[0, 1, 2, 2, 3, 3, 3, 3, 4, 4, 4, 4, 4, 4, 4, 4, 5, 5, 5, 5, 5, 5, 5, 5, 5, 5, 5, 5, 5, 5, 5, 5, 6, 6, 6, 6, 6, 6, 6, 6, 6, 6, 6, 6, 6, 6, 6, 6, 6, 6, 6, 6, 6, 6, 6, 6, 6, 6, 6, 6, 6, 6, 6, 6, 7, 7, 7, 7, 7, 7, 7, 7, 7, 7, 7, 7, 7, 7, 7, 7, 7, 7, 7, 7, 7, 7, 7, 7, 7, 7, 7, 7, 7, 7, 7, 7, 7, 7, 7, 7, 7, 7, 7, 7, 7, 7, 7, 7, 7, 7, 7, 7, 7, 7, 7, 7, 7, 7, 7, 7, 7, 7, 7, 7, 7, 7, 7, 7, 8, 8, 8, 8, 8, 8, 8, 8, 8, 8, 8, 8, 8, 8, 8, 8, 8, 8, 8, 8, 8, 8, 8, 8, 8, 8, 8, 8, 8, 8, 8, 8, 8, 8, 8, 8, 8, 8, 8, 8, 8, 8, 8, 8, 8, 8, 8, 8, 8, 8, 8, 8, 8, 8, 8, 8, 8, 8, 8, 8, 8, 8, 8, 8, 8, 8, 8, 8, 8, 8, 8, 8, 8, 8, 8, 8, 8, 8, 8, 8, 8, 8, 8, 8, 8, 8, 8, 8, 8, 8, 8, 8, 8, 8, 8, 8, 8, 8, 8, 8, 8, 8, 8, 8, 8, 8, 8, 8, 8, 8, 8, 8, 8, 8, 8, 8, 8, 8, 8, 8, 8, 8, 8, 8, 8, 8, 8, 8]⟩)) (.tmp 21)⟩, ⟨(some 23), none, .conv .i64 (.tmp 22)⟩, ⟨(some 24), none, .bin .add none (.tmp 19) (.tmp 23)⟩, ⟨(some 2), none, .move (.tmp 24)⟩])
  .ret))))), [(2, none)]⟩
/-- cmp.isNaN[int] -/
def ir127 : IF := ⟨(.seq (.ops [⟨(some 2), none, .move (.const (.bool false))⟩])
  (.seq (.ops [⟨(some 3), none, .move (.tmp 0)⟩, ⟨(some 4), none, .move (.tmp 0)⟩, ⟨(some 5), none, .bin .neq none (.tmp 3) (.tmp 4)⟩, ⟨(some 2), none, .move (.tmp 5)⟩])
  .ret)), [(2, none)]⟩
/-- slices.insertionSortCmpFunc[[2]int] -/
def lp128_0 : IC := (.seq (.seq (.ops [⟨(some 18), none, .move (.tmp 9)⟩, ⟨(some 19), none, .move (.tmp 1)⟩, ⟨(some 20), none, .bin .gtr none (.tmp 18) (.tmp 19)⟩, ⟨(some 21), none, .move (.tmp 20)⟩, ⟨(some 22), (some (21, true)), .move (.tmp 3)⟩, ⟨(some 23), (some (21, true)), .move (.tmp 0)⟩, ⟨(some 24), (some (21, true)), .move (.tmp 9)⟩, ⟨(some 25), (some (21, true)), .indexS 2 (.tmp 23) (.tmp 24)⟩, ⟨(some 26), (some (21, true)), .load 2 true (.tmp 25)⟩, ⟨(some 27), (some (21, true)), .move (.tmp 0)⟩, ⟨(some 28), (some (21, true)), .move (.tmp 9)⟩, ⟨(some 29), (some (21, true)), .bin .sub none (.tmp 28) (.const (.int .i64 1))⟩, ⟨(some 30), (some (21, true)), .indexS 2 (.tmp 27) (.tmp 29)⟩, ⟨(some 31), (some (21, true)), .load 2 true (.tmp 30)⟩, ⟨(some 32), (some (21, true)), .callv true (.tmp 22) [(.tmp 26), (.tmp 31)]⟩, ⟨(some 33), (some (21, true)), .bin .lss none (.tmp 32) (.const (.int .i64 0))⟩, ⟨(some 34), none, .pick (.tmp 21) (.tmp 33) (.const (.bool false))⟩])
  (.cond (.tmp 34) .skip
  (.exit 2)))
  (.seq (.block 3 (.ops [⟨(some 37), none, .move (.tmp 0)⟩, ⟨(some 38), none, .move (.tmp 9)⟩, ⟨(some 39), none, .move (.tmp 0)⟩, ⟨(some 40), none, .move (.tmp 9)⟩, ⟨(some 41), none, .bin .sub none (.tmp 40) (.const (.int .i64 1))⟩, ⟨(some 42), none, .move (.tmp 0)⟩, ⟨(some 43), none, .move (.tmp 9)⟩, ⟨(some 44), none, .bin .sub none (.tmp 43) (.const (.int .i64 1))⟩, ⟨(some 45), none, .indexS 2 (.tmp 42) (.tmp 44)⟩, ⟨(some 46), none, .load 2 true (.tmp 45)⟩, ⟨(some 47), none, .move (.tmp 0)⟩, ⟨(some 48), none, .move (.tmp 9)⟩, ⟨(some 49), none, .indexS 2 (.tmp 47) (.tmp 48)⟩, ⟨(some 50), none, .load 2 true (.tmp 49)⟩, ⟨(some 51), none, .indexS 2 (.tmp 37) (.tmp 38)⟩, ⟨none, none, .store 2 (.tmp 51) (.tmp 46)⟩, ⟨(some 52), none, .indexS 2 (.tmp 39) (.tmp 41)⟩, ⟨none, none, .store 2 (.tmp 52) (.tmp 50)⟩]))
  (.ops [⟨(some 35), none, .move (.tmp 9)⟩, ⟨(some 36), none, .bin .sub none (.tmp 35) (.const (.int .i64 1))⟩, ⟨(some 9), none, .move (.tmp 36)⟩])))
def lp128_1 : IC := (.seq (.seq (.ops [⟨(some 12), none, .move (.tmp 8)⟩, ⟨(some 13), none, .move (.tmp 2)⟩, ⟨(some 14), none, .bin .lss none (.tmp 12) (.tmp 13)⟩])
  (.cond (.tmp 14) .skip
  (.exit 0)))
  (.seq (.block 1 (.seq (.ops [⟨(some 17), none, .move (.tmp 8)⟩, ⟨(some 9), none, .move (.tmp 17)⟩])
    (.block 2 (.loop false [0, 1, 2, 3, 8, 9] lp128_0))))
  (.ops [⟨(some 15), none, .move (.tmp 8)⟩, ⟨(some 16), none, .bin .add none (.tmp 15) (.const (.int .i64 1))⟩, ⟨(some 8), none, .move (.tmp 16)⟩])))
def ir128 : IF := ⟨(.seq (.ops [⟨(some 10), none, .move (.tmp 1)⟩, ⟨(some 11), none, .bin .add none (.tmp 10) (.const (.int .i64 1))⟩, ⟨(some 8), none, .move (.tmp 11)⟩])
  (.block 0 (.loop false [0, 1, 2, 3, 8] lp128_1))), []⟩
/-- math/bits.OnesCount32 -/
def ir136 : IF := ⟨(.seq (.ops [⟨(some 2), none, .move (.const (.int .i64 0))⟩])
  (.seq (.ops [⟨(some 3), none, .move (.tmp 0)⟩, ⟨(some 4), none, .bin .shr none (.tmp 3) (.const (.int .u64 24))⟩, ⟨(some 5), none, .indexStr (.const (.string ⟨#[0, 1, 1, 2, 1, 2, 2, 3, 1, 2, 2, 3, 2, 3, 3, 4, 1, 2, 2, 3, 2, 3, 3, 4, 2, 3, 3, 4, 3, 4, 4, 5, 1, 2, 2, 3, 2, 3, 3, 4, 2, 3, 3, 4, 3, 4, 4, 5, 2, 3, 3, 4, 3, 4, 4, 5, 3, 4, 4, 5, 4, 5, 5, 6, 1, 2, 2, 3, 2, 3, 3, 4, 2, 3, 3, 4, 3, 4, 4, 5, 2, 3, 3, 4, 3, 4, 4, 5, 3, 4, 4, 5, 4, 5, 5, 6, 2, 3, 3, 4, 3, 4, 4, 5, 3, 4, 4, 5, 4, 5, 5, 6, 3, 4, 4, 5, 4, 5, 5, 6, 4, 5, 5, 6, 5, 6, 6, 7, 1, 2, 2, 3, 2, 3, 3, 4, 2, 3, 3, 4, 3, 4, 4, 5, 2, 3, 3, 4, 3, 4, 4, 5, 3, 4, 4, 5, 4, 5, 5, 6, 2, 3, 3, 4, 3, 4, 4, 5, 3, 4, 4, 5, 4, 5, 5, 6, 3, 4, 4, 5, 4, 5, 5, 6, 4, 5, 5, 6, 5, 6, 6, 7, 2, 3, 3, 4, 3, 4, 4, 5, 3, 4, 4, 5, 4, 5, 5, 6, 3, 4, 4, 5, 4, 5, 5, 6, 4, 5, 5, 6, 5, 6, 6, 7, 3, 4, 4, 5, 4, 5, 5, 6, 4, 5, 5, 6, 5, 6, 6, 7, 4, 5, 5, 6, 5, 6, 6, 7, 5, 6, 6, 7, 6, 7, 7, 8]⟩)) (.tmp 4)⟩, ⟨(some 6), none, .move (.tmp 0)⟩, ⟨(some 7), none, .bin .shr none (.tmp 6) (.const (.int .u64 16))⟩, ⟨(some 8), none, .bin .and none (.tmp 7) (.const (.int .u32 255))⟩, ⟨(some 9), none, .indexStr (.const (.string ⟨#[0, 1, 1, 2, 1, 2, 2, 3, 1, 2, 2, 3, 2, 3, 3, 4, 1, 2, 2, 3, 2, 3, 3, 4, 2, 3, 3, 4, 3, 4, 4, 5, 1, 2, 2, 3, 2, 3, 3, 4, 2, 3, 3, 4, 3, 4, 4, 5, 2, 3, 3, 4, 3, 4, 4, 5, 3, 4, 4, 5, 4, 5, 5, 6, 1, 2, 2, 3, 2, 3, 3, 4, 2, 3, 3, 4, 3, 4, 4, 5, 2, 3, 3, 4, 3, 4, 4, 5, 3, 4, 4, 5, 4, 5, 5, 6, 2, 3, 3, 4, 3, 4, 4, 5, 3, 4, 4, 5, 4, 5, 5, 6, 3, 4, 4, 5, 4, 5, 5, 6, 4, 5, 5, 6, 5, 6, 6, 7, 1, 2, 2, 3, 2, 3, 3, 4, 2, 3, 3, 4, 3, 4, 4, 5, 2, 3, 3, 4, 3, 4, 4, 5, 3, 4, 4, 5, 4, 5, 5, 6, 2, 3, 3, 4, 3, 4, 4, 5, 3, 4, 4, 5, 4, 5, 5, 6, 3, 4, 4, 5, 4, 5, 5, 6, 4, 5, 5, 6, 5, 6, 6, 7, 2, 3, 3, 4, 3, 4, 4, 5, 3, 4, 4, 5, 4, 5, 5, 6, 3, 4, 4, 5, 4, 5, 5, 6, 4, 5, 5, 6, 5, 6, 6, 7, 3, 4, 4, 5, 4, 5, 5, 6, 4, 5, 5, 6, 5, 6, 6, 7, 4, 5, 5, 6, 5, 6, 6, 7, 5, 6, 6, 7, 6, 7, 7, 8]⟩)) (.tmp 8)⟩, ⟨(some 10), none, .bin .add none (.tmp 5) (.tmp 9)⟩, ⟨(some 11), none, .move (.tmp 0)⟩, ⟨(some 12), none, .bin .shr none (.tmp 11) (.const (.int .u64 8))⟩, ⟨(some 13), none, .bin .and none (.tmp 12) (.const (.int .u32 255))⟩, ⟨(some 14), none, .indexStr (.const (.string ⟨#[0, 1, 1, 2, 1, 2, 2, 3, 1, 2, 2, 3, 2, 3, 3, 4, 1, 2, 2, 3, 2, 3, 3, 4, 2, 3, 3, 4, 3, 4, 4, 5, 1, 2, 2, 3, 2, 3, 3, 4, 2, 3, 3, 4, 3, 4, 4, 5, 2, 3, 3, 4, 3, 4, 4, 5, 3, 4, 4, 5, 4, 5, 5, 6, 1, 2, 2, 3, 2, 3, 3, 4, 2, 3, 3, 4, 3, 4, 4, 5, 2, 3, 3, 4, 3, 4, 4, 5, 3, 4, 4, 5, 4, 5, 5, 6, 2, 3, 3, 4, 3, 4, 4, 5, 3, 4, 4, 5, 4, 5, 5, 6, 3, 4, 4, 5, 4, 5, 5, 6, 4, 5, 5, 6, 5, 6, 6, 7, 1, 2, 2, 3, 2, 3, 3, 4, 2, 3, 3, 4, 3, 4, 4, 5, 2, 3, 3, 4, 3, 4, 4, 5, 3, 4, 4, 5, 4, 5, 5, 6, 2, 3, 3, 4, 3, 4, 4, 5, 3, 4, 4, 5, 4, 5, 5, 6, 3, 4, 4, 5, 4, 5, 5, 6, 4, 5, 5, 6, 5, 6, 6, 7, 2, 3, 3, 4, 3, 4, 4, 5, 3, 4, 4, 5, 4, 5, 5, 6, 3, 4, 4, 5, 4, 5, 5, 6, 4, 5, 5, 6, 5, 6, 6, 7, 3, 4, 4, 5, 4, 5, 5, 6, 4, 5, 5, 6, 5, 6, 6, 7, 4, 5, 5, 6, 5, 6, 6, 7, 5, 6, 6, 7, 6, 7, 7, 8]⟩)) (.tmp 13)⟩, ⟨(some 15), none, .bin .add none (.tmp 10) (.tmp 14)⟩, ⟨(some 16), none, .move (.tmp 0)⟩, ⟨(some 17), none, .bin .and none (.tmp 16) (.const (.int .u32 255))⟩, ⟨(some 18), none, .indexStr (.const (.string ⟨#[0, 1, 1, 2, 1, 2, 2, 3, 1, 2, 2, 3, 2, 3, 3, 4, 1, 2, 2, 3, 2, 3, 3, 4, 2, 3, 3, 4, 3, 4, 4, 5, 1, 2, 2, 3, 2, 3, 3, 4, 2, 3, 3, 4, 3, 4, 4, 5, 2, 3, 3, 4, 3, 4, 4, 5, 3, 4, 4, 5, 4, 5, 5, 6, 1, 2, 2, 3, 2, 3, 3, 4, 2, 3, 3, 4, 3, 4, 4, 5, 2, 3, 3, 4, 3, 4, 4, 5, 3, 4, 4, 5, 4, 5, 5, 6, 2, 3, 3, 4, 3, 4, 4, 5, 3, 4, 4, 5, 4, 5, 5, 6, 3, 4, 4, 5, 4, 5, 5, 6, 4, 5, 5, 6, 5, 6, 6, 7, 1, 2, 2, 3, 2, 3, 3, 4, 2, 3, 3, 4, 3, 4, 4, 5, 2, 3, 3, 4, 3, 4, 4, 5, 3, 4, 4, 5, 4, 5, 5, 6, 2, 3, 3, 4, 3, 4, 4, 5, 3, 4, 4, 5, 4, 5, 5, 6, 3, 4, 4, 5, 4, 5, 5, 6, 4, 5, 5, 6, 5, 6, 6, 7, 2, 3, 3, 4, 3, 4, 4, 5, 3, 4, 4, 5, 4, 5, 5, 6, 3, 4, 4, 5, 4, 5, 5, 6, 4, 5, 5, 6, 5, 6, 6, 7, 3, 4, 4, 5, 4, 5, 5, 6, 4, 5, 5, 6, 5, 6, 6, 7, 4, 5, 5, 6, 5, 6, 6, 7, 5, 6, 6, 7, 6, 7, 7, 8]⟩)) (.tmp 17)⟩, ⟨(some 19), none, .bin .add none (.tmp 15) (.tmp 18)⟩, ⟨(some 20), none, .conv .i64 (.tmp 19)⟩, ⟨(some 2), none, .move (.tmp 20)⟩])
  .ret)), [(2, none)]⟩
/-- math/bits.OnesCount64 -/
def ir137 : IF := ⟨(.seq (.ops [⟨(some 2), none, .move (.const (.int .i64 0))⟩])
  (.seq (.ops [⟨(some 3), none, .move (.tmp 0)⟩, ⟨(some 4), none, .bin .shr none (.tmp 3) (.const (.int .u64 1))⟩, ⟨(some 5), none, .bin .and none (.tmp 4) (.const (.int .u64 6148914691236517205))⟩, ⟨(some 6), none, .move (.tmp 0)⟩, ⟨(some 7), none, .bin .and none (.tmp 6) (.const (.int .u64 6148914691236517205))⟩, ⟨(some 8), none, .bin .add none (.tmp 5) (.tmp 7)⟩, ⟨(some 0), none, .move (.tmp 8)⟩])
  (.seq (.ops [⟨(some 9), none, .move (.tmp 0)⟩, ⟨(some 10), none, .bin .shr none (.tmp 9) (.const (.int .u64 2))⟩, ⟨(some 11), none, .bin .and none (.tmp 10) (.const (.int .u64 3689348814741910323))⟩, ⟨(some 12), none, .move (.tmp 0)⟩, ⟨(some 13), none, .bin .and none (.tmp 12) (.const (.int .u64 3689348814741910323))⟩, ⟨(some 14), none, .bin .add none (.tmp 11) (.tmp 13)⟩, ⟨(some 0), none, .move (.tmp 14)⟩])
  (.seq (.ops [⟨(some 15), none, .move (.tmp 0)⟩, ⟨(some 16), none, .bin .shr none (.tmp 15) (.const (.int .u64 4))⟩, ⟨(some 17), none, .move (.tmp 0)⟩, ⟨(some 18), none, .bin .add none (.tmp 16) (.tmp 17)⟩, ⟨(some 19), none, .bin .and none (.tmp 18) (.const (.int .u64 1085102592571150095))⟩, ⟨(some 0), none, .move (.tmp 19)⟩])
  (.seq (.ops [⟨(some 20), none, .move (.tmp 0)⟩, ⟨(some 21), none, .move (.tmp 0)⟩, ⟨(some 22), none, .bin .shr none (.tmp 21) (.const (.int .u64 8))⟩, ⟨(some 23), none, .bin .add none (.tmp 20) (.tmp 22)⟩, ⟨(some 0), none, .move (.tmp 23)⟩])
  (.seq (.ops [⟨(some 24), none, .move (.tmp 0)⟩, ⟨(some 25), none, .move (.tmp 0)⟩, ⟨(some 26), none, .bin .shr none (.tmp 25) (.const (.int .u64 16))⟩, ⟨(some 27), none, .bin .add none (.tmp 24) (.tmp 26)⟩, ⟨(some 0), none, .move (.tmp 27)⟩])
  (.seq (.ops [⟨(some 28), none, .move (.tmp 0)⟩, ⟨(some 29), none, .move (.tmp 0)⟩, ⟨(some 30), none, .bin .shr none (.tmp 29) (.const (.int .u64 32))⟩, ⟨(some 31), none, .bin .add none (.tmp 28) (.tmp 30)⟩, ⟨(some 0), none, .move (.tmp 31)⟩])
  (.seq (.ops [⟨(some 32), none, .move (.tmp 0)⟩, ⟨(some 33), none, .conv .i64 (.tmp 32)⟩, ⟨(some 34), none, .bin .and none (.tmp 33) (.const (.int .i64 127))⟩, ⟨(some 2), none, .move (.tmp 34)⟩])
  .ret)))))))), [(2, none)]⟩
end Go.Proofs.YtpmbfgogpcjdlaaDoor.Vm
