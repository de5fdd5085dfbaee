/- What stands here: functions of this program in the form that the evaluator runs. No condition: a later text proves that they are what the program holds. -/
import Derived.Test.YtgohohiaaiogcaaDoorIr1
set_option linter.all false
namespace Go.Proofs.YtgohohiaaiogcaaDoor.Vm
open Go Go.Ev
set_option maxRecDepth 100000
/-- cmp.isNaN[int] -/
def ir98 : IF := ⟨(.seq (.ops [⟨(some 2), none, .move (.const (.bool false))⟩])
  (.seq (.ops [⟨(some 3), none, .move (.tmp 0)⟩, ⟨(some 4), none, .move (.tmp 0)⟩, ⟨(some 5), none, .bin .neq none (.tmp 3) (.tmp 4)⟩, ⟨(some 2), none, .move (.tmp 5)⟩])
  .ret)), [(2, none)]⟩
/-- slices.insertionSortCmpFunc[[]int] -/
def lp99_0 : IC := (.seq (.seq (.ops [⟨(some 18), none, .move (.tmp 9)⟩, ⟨(some 19), none, .move (.tmp 1)⟩, ⟨(some 20), none, .bin .gtr none (.tmp 18) (.tmp 19)⟩, ⟨(some 21), none, .move (.tmp 20)⟩, ⟨(some 22), (some (21, true)), .move (.tmp 3)⟩, ⟨(some 23), (some (21, true)), .move (.tmp 0)⟩, ⟨(some 24), (some (21, true)), .move (.tmp 9)⟩, ⟨(some 25), (some (21, true)), .indexS 1 (.tmp 23) (.tmp 24)⟩, ⟨(some 26), (some (21, true)), .load 1 false (.tmp 25)⟩, ⟨(some 27), (some (21, true)), .move (.tmp 0)⟩, ⟨(some 28), (some (21, true)), .move (.tmp 9)⟩, ⟨(some 29), (some (21, true)), .bin .sub none (.tmp 28) (.const (.int .i64 1))⟩, ⟨(some 30), (some (21, true)), .indexS 1 (.tmp 27) (.tmp 29)⟩, ⟨(some 31), (some (21, true)), .load 1 false (.tmp 30)⟩, ⟨(some 32), (some (21, true)), .callv false (.tmp 22) [(.tmp 26), (.tmp 31)]⟩, ⟨(some 33), (some (21, true)), .bin .lss none (.tmp 32) (.const (.int .i64 0))⟩, ⟨(some 34), none, .pick (.tmp 21) (.tmp 33) (.const (.bool false))⟩])
  (.cond (.tmp 34) .skip
  (.exit 2)))
  (.seq (.block 3 (.ops [⟨(some 37), none, .move (.tmp 0)⟩, ⟨(some 38), none, .move (.tmp 9)⟩, ⟨(some 39), none, .move (.tmp 0)⟩, ⟨(some 40), none, .move (.tmp 9)⟩, ⟨(some 41), none, .bin .sub none (.tmp 40) (.const (.int .i64 1))⟩, ⟨(some 42), none, .move (.tmp 0)⟩, ⟨(some 43), none, .move (.tmp 9)⟩, ⟨(some 44), none, .bin .sub none (.tmp 43) (.const (.int .i64 1))⟩, ⟨(some 45), none, .indexS 1 (.tmp 42) (.tmp 44)⟩, ⟨(some 46), none, .load 1 false (.tmp 45)⟩, ⟨(some 47), none, .move (.tmp 0)⟩, ⟨(some 48), none, .move (.tmp 9)⟩, ⟨(some 49), none, .indexS 1 (.tmp 47) (.tmp 48)⟩, ⟨(some 50), none, .load 1 false (.tmp 49)⟩, ⟨(some 51), none, .indexS 1 (.tmp 37) (.tmp 38)⟩, ⟨none, none, .store 1 (.tmp 51) (.tmp 46)⟩, ⟨(some 52), none, .indexS 1 (.tmp 39) (.tmp 41)⟩, ⟨none, none, .store 1 (.tmp 52) (.tmp 50)⟩]))
  (.ops [⟨(some 35), none, .move (.tmp 9)⟩, ⟨(some 36), none, .bin .sub none (.tmp 35) (.const (.int .i64 1))⟩, ⟨(some 9), none, .move (.tmp 36)⟩])))
def lp99_1 : IC := (.seq (.seq (.ops [⟨(some 12), none, .move (.tmp 8)⟩, ⟨(some 13), none, .move (.tmp 2)⟩, ⟨(some 14), none, .bin .lss none (.tmp 12) (.tmp 13)⟩])
  (.cond (.tmp 14) .skip
  (.exit 0)))
  (.seq (.block 1 (.seq (.ops [⟨(some 17), none, .move (.tmp 8)⟩, ⟨(some 9), none, .move (.tmp 17)⟩])
    (.block 2 (.loop false [0, 1, 2, 3, 8, 9] lp99_0))))
  (.ops [⟨(some 15), none, .move (.tmp 8)⟩, ⟨(some 16), none, .bin .add none (.tmp 15) (.const (.int .i64 1))⟩, ⟨(some 8), none, .move (.tmp 16)⟩])))
def ir99 : IF := ⟨(.seq (.ops [⟨(some 10), none, .move (.tmp 1)⟩, ⟨(some 11), none, .bin .add none (.tmp 10) (.const (.int .i64 1))⟩, ⟨(some 8), none, .move (.tmp 11)⟩])
  (.block 0 (.loop false [0, 1, 2, 3, 8] lp99_1))), []⟩
/-- math/bits.Len32 -/
def ir107 : IF := ⟨(.seq (.ops [⟨(some 2), none, .move (.const (.int .i64 0))⟩])
  (.seq (.seq (.ops [⟨(some 3), none, .move (.tmp 0)⟩, ⟨(some 4), none, .bin .geq none (.tmp 3) (.const (.int .u32 65536))⟩])
  (.cond (.tmp 4) (.seq (.ops [⟨(some 5), none, .move (.tmp 0)⟩, ⟨(some 6), none, .bin .shr none (.tmp 5) (.const (.int .u64 16))⟩, ⟨(some 0), none, .move (.tmp 6)⟩])
    (.ops [⟨(some 2), none, .move (.const (.int .i64 16))⟩]))
  .skip))
  (.seq (.seq (.ops [⟨(some 7), none, .move (.tmp 0)⟩, ⟨(some 8), none, .bin .geq none (.tmp 7) (.const (.int .u32 256))⟩])
  (.cond (.tmp 8) (.seq (.ops [⟨(some 9), none, .move (.tmp 0)⟩, ⟨(some 10), none, .bin .shr none (.tmp 9) (.const (.int .u64 8))⟩, ⟨(some 0), none, .move (.tmp 10)⟩])
    (.ops [⟨(some 11), none, .move (.tmp 2)⟩, ⟨(some 12), none, .bin .add none (.tmp 11) (.const (.int .i64 8))⟩, ⟨(some 2), none, .move (.tmp 12)⟩]))
  .skip))
  (.seq (.ops [⟨(some 13), none, .move (.tmp 2)⟩, ⟨(some 14), none, .move (.tmp 0)⟩, ⟨(some 15), none, .conv .u8 (.tmp 14)⟩, ⟨(some 16), none, .indexStr (.const (.string ⟨#[0, 1, 2, 2, 3, 3, 3, 3, 4, 4, 4, 4, 4, 4, 4, 4, 5, 5, 5, 5, 5, 5, 5, 5, 5, 5, 5, 5, 5, 5, 5, 5, 6, 6, 6, 6, 6, 6, 6, 6, 6, 6, 6, 6, 6, 6, 6, 6, 6, 6, 6, 6, 6, 6, 6, 6, 6, 6, 6, 6, 6, 6, 6, 6, 7, 7, 7, 7, 7, 7, 7, 7, 7, 7, 7, 7, 7, 7, 7, 7, 7, 7, 7, 7, 7, 7, 7, 7, 7, 7, 7, 7, 7, 7, 7, 7, 7, 7, 7, 7, 7, 7, 7, 7, 7, 7, 7, 7, 7, 7, 7, 7, 7, 7, 7, 7, 7, 7, 7, 7, 7, 7, 7, 7, 7, 7, 7, 7, 8, 8, 8, 8, 8, 8, 8, 8, 8, 8, 8, 8, 8, 8, 8, 8, 8, 8, 8, 8, 8, 8, 8, 8, 8, 8, 8, 8, 8, 8, 8, 8, 8, 8, 8, 8, 8, 8, 8, 8, 8, 8, 8, 8, 8, 8, 8, 8, 8, 8, 8, 8, 8, 8, 8, 8, 8, 8, 8, 8, 8, 8, 8, 8, 8, 8, 8, 8, 8, 8, 8, 8, 8, 8, 8, 8, 8, 8, 8, 8, 8, 8, 8, 8, 8, 8, 8, 8, 8, 8, 8, 8, 8, 8, 8, 8, 8, 8, 8, 8, 8, 8, 8, 8, 8, 8, 8, 8, 8, 8, 8, 8, 8, 8, 8, 8, 8, 8, 8, 8, 8, 8, 8, 8, 8, 8, 8, 8]⟩)) (.tmp 15)⟩, ⟨(some 17), none, .conv .i64 (.tmp 16)⟩, ⟨(some 18), none, .bin .add none (.tmp 13) (.tmp 17)⟩, ⟨(some 2), none, .move (.tmp 18)⟩])
  .ret)))), [(2, none)]⟩
/-- math/bits.Len64 -/
def ir108 : IF := ⟨(.seq (.ops [⟨(some 2), none, .move (.const (.int .i64 0))⟩])
  (.seq (.seq (.ops [⟨(some 3), none, .move (.tmp 0)⟩, ⟨(some 4), none, .bin .geq none (.tmp 3) (.const (.int .u64 4294967296))⟩])
  (.cond (.tmp 4) (.seq (.ops [⟨(some 5), none, .move (.tmp 0)⟩, ⟨(some 6), none, .bin .shr none (.tmp 5) (.const (.int .u64 32))⟩, ⟨(some 0), none, .move (.tmp 6)⟩])
    (.ops [⟨(some 2), none, .move (.const (.int .i64 32))⟩]))
  .skip))
  (.seq (.seq (.ops [⟨(some 7), none, .move (.tmp 0)⟩, ⟨(some 8), none, .bin .geq none (.tmp 7) (.const (.int .u64 65536))⟩])
  (.cond (.tmp 8) (.seq (.ops [⟨(some 9), none, .move (.tmp 0)⟩, ⟨(some 10), none, .bin .shr none (.tmp 9) (.const (.int .u64 16))⟩, ⟨(some 0), none, .move (.tmp 10)⟩])
    (.ops [⟨(some 11), none, .move (.tmp 2)⟩, ⟨(some 12), none, .bin .add none (.tmp 11) (.const (.int .i64 16))⟩, ⟨(some 2), none, .move (.tmp 12)⟩]))
  .skip))
  (.seq (.seq (.ops [⟨(some 13), none, .move (.tmp 0)⟩, ⟨(some 14), none, .bin .geq none (.tmp 13) (.const (.int .u64 256))⟩])
  (.cond (.tmp 14) (.seq (.ops [⟨(some 15), none, .move (.tmp 0)⟩, ⟨(some 16), none, .bin .shr none (.tmp 15) (.const (.int .u64 8))⟩, ⟨(some 0), none, .move (.tmp 16)⟩])
    (.ops [⟨(some 17), none, .move (.tmp 2)⟩, ⟨(some 18), none, .bin .add none (.tmp 17) (.const (.int .i64 8))⟩, ⟨(some 2), none, .move (.tmp 18)⟩]))
  .skip))
  (.seq (.ops [⟨(some 19), none, .move (.tmp 2)⟩, ⟨(some 20), none, .move (.tmp 0)⟩, ⟨(some 21), none, .conv .u8 (.tmp 20)⟩, ⟨(some 22), none, .indexStr (.const (.string ⟨#[0, 1, 2, 2, 3, 3, 3, 3, 4, 4, 4, 4, 4, 4, 4, 4, 5, 5, 5, 5, 5, 5, 5, 5, 5, 5, 5, 5, 5, 5, 5, 5, 6, 6, 6, 6, 6, 6, 6, 6, 6, 6, 6, 6, 6, 6, 6, 6, 6, 6, 6, 6, 6, 6, 6, 6, 6, 6, 6, 6, 6, 6, 6, 6, 7, 7, 7, 7, 7, 7, 7, 7, 7, 7, 7, 7, 7, 7, 7, 7, 7, 7, 7, 7, 7, 7, 7, 7, 7, 7, 7, 7, 7, 7, 7, 7, 7, 7, 7, 7, 7, 7, 7, 7, 7, 7, 7, 7, 7, 7, 7, 7, 7, 7, 7, 7, 7, 7, 7, 7, 7, 7, 7, 7, 7, 7, 7, 7, 8, 8, 8, 8, 8, 8, 8, 8, 8, 8, 8, 8, 8, 8, 8, 8, 8, 8, 8, 8, 8, 8, 8, 8, 8, 8, 8, 8, 8, 8, 8, 8, 8, 8, 8, 8, 8, 8, 8, 8, 8, 8, 8, 8, 8, 8, 8, 8, 8, 8, 8, 8, 8, 8, 8, 8, 8, 8, 8, 8, 8, 8, 8, 8, 8, 8, 8, 8, 8, 8, 8, 8, 8, 8, 8, 8, 8, 8, 8, 8, 8, 8, 8, 8, 8, 8, 8, 8, 8, 8, 8, 8, 8, 8, 8, 8, 8, 8, 8, 8, 8, 8, 8, 8, 8, 8, 8, 8, 8, 8, 8, 8, 8, 8, 8, 8, 8, 8, 8, 8, 8, 8, 8, 8, 8, 8, 8, 8]⟩)) (.tmp 21)⟩, ⟨(some 23), none, .conv .i64 (.tmp 22)⟩, ⟨(some 24), none, .bin .add none (.tmp 19) (.tmp 23)⟩, ⟨(some 2), none, .move (.tmp 24)⟩])
  .ret))))), [(2, none)]⟩
/-- slices.insertionSortOrdered[int] -/
def lp109_0 : IC := (.seq (.seq (.ops [⟨(some 16), none, .move (.tmp 7)⟩, ⟨(some 17), none, .move (.tmp 1)⟩, ⟨(some 18), none, .bin .gtr none (.tmp 16) (.tmp 17)⟩, ⟨(some 19), none, .move (.tmp 18)⟩, ⟨(some 20), (some (19, true)), .move (.tmp 0)⟩, ⟨(some 21), (some (19, true)), .move (.tmp 7)⟩, ⟨(some 22), (some (19, true)), .indexS 1 (.tmp 20) (.tmp 21)⟩, ⟨(some 23), (some (19, true)), .load 1 false (.tmp 22)⟩, ⟨(some 24), (some (19, true)), .move (.tmp 0)⟩, ⟨(some 25), (some (19, true)), .move (.tmp 7)⟩, ⟨(some 26), (some (19, true)), .bin .sub none (.tmp 25) (.const (.int .i64 1))⟩, ⟨(some 27), (some (19, true)), .indexS 1 (.tmp 24) (.tmp 26)⟩, ⟨(some 28), (some (19, true)), .load 1 false (.tmp 27)⟩, ⟨(some 29), (some (19, true)), .call true 115 [(.tmp 23), (.tmp 28)]⟩, ⟨(some 30), none, .pick (.tmp 19) (.tmp 29) (.const (.bool false))⟩])
  (.cond (.tmp 30) .skip
  (.exit 2)))
  (.seq (.block 3 (.ops [⟨(some 33), none, .move (.tmp 0)⟩, ⟨(some 34), none, .move (.tmp 7)⟩, ⟨(some 35), none, .move (.tmp 0)⟩, ⟨(some 36), none, .move (.tmp 7)⟩, ⟨(some 37), none, .bin .sub none (.tmp 36) (.const (.int .i64 1))⟩, ⟨(some 38), none, .move (.tmp 0)⟩, ⟨(some 39), none, .move (.tmp 7)⟩, ⟨(some 40), none, .bin .sub none (.tmp 39) (.const (.int .i64 1))⟩, ⟨(some 41), none, .indexS 1 (.tmp 38) (.tmp 40)⟩, ⟨(some 42), none, .load 1 false (.tmp 41)⟩, ⟨(some 43), none, .move (.tmp 0)⟩, ⟨(some 44), none, .move (.tmp 7)⟩, ⟨(some 45), none, .indexS 1 (.tmp 43) (.tmp 44)⟩, ⟨(some 46), none, .load 1 false (.tmp 45)⟩, ⟨(some 47), none, .indexS 1 (.tmp 33) (.tmp 34)⟩, ⟨none, none, .store 1 (.tmp 47) (.tmp 42)⟩, ⟨(some 48), none, .indexS 1 (.tmp 35) (.tmp 37)⟩, ⟨none, none, .store 1 (.tmp 48) (.tmp 46)⟩]))
  (.ops [⟨(some 31), none, .move (.tmp 7)⟩, ⟨(some 32), none, .bin .sub none (.tmp 31) (.const (.int .i64 1))⟩, ⟨(some 7), none, .move (.tmp 32)⟩])))
def lp109_1 : IC := (.seq (.seq (.ops [⟨(some 10), none, .move (.tmp 6)⟩, ⟨(some 11), none, .move (.tmp 2)⟩, ⟨(some 12), none, .bin .lss none (.tmp 10) (.tmp 11)⟩])
  (.cond (.tmp 12) .skip
  (.exit 0)))
  (.seq (.block 1 (.seq (.ops [⟨(some 15), none, .move (.tmp 6)⟩, ⟨(some 7), none, .move (.tmp 15)⟩])
    (.block 2 (.loop false [0, 1, 2, 6, 7] lp109_0))))
  (.ops [⟨(some 13), none, .move (.tmp 6)⟩, ⟨(some 14), none, .bin .add none (.tmp 13) (.const (.int .i64 1))⟩, ⟨(some 6), none, .move (.tmp 14)⟩])))
def ir109 : IF := ⟨(.seq (.ops [⟨(some 8), none, .move (.tmp 1)⟩, ⟨(some 9), none, .bin .add none (.tmp 8) (.const (.int .i64 1))⟩, ⟨(some 6), none, .move (.tmp 9)⟩])
  (.block 0 (.loop false [0, 1, 2, 6] lp109_1))), []⟩
/-- cmp.Less[int] -/
def ir115 : IF := ⟨(.seq (.ops [⟨(some 4), none, .move (.const (.bool false))⟩])
  (.seq (.ops [⟨(some 5), none, .move (.tmp 0)⟩, ⟨(some 6), none, .call true 98 [(.tmp 5)]⟩, ⟨(some 7), none, .move (.tmp 6)⟩, ⟨(some 8), (some (7, true)), .move (.tmp 1)⟩, ⟨(some 9), (some (7, true)), .call true 98 [(.tmp 8)]⟩, ⟨(some 10), (some (7, true)), .not (.tmp 9)⟩, ⟨(some 11), none, .pick (.tmp 7) (.tmp 10) (.const (.bool false))⟩, ⟨(some 12), none, .move (.tmp 11)⟩, ⟨(some 13), (some (12, false)), .move (.tmp 0)⟩, ⟨(some 14), (some (12, false)), .move (.tmp 1)⟩, ⟨(some 15), (some (12, false)), .bin .lss none (.tmp 13) (.tmp 14)⟩, ⟨(some 16), none, .pick (.tmp 12) (.const (.bool true)) (.tmp 15)⟩, ⟨(some 4), none, .move (.tmp 16)⟩])
  .ret)), [(4, none)]⟩
/-- math/bits.Mul32 -/
def ir118 : IF := ⟨(.seq (.ops [⟨(some 4), none, .move (.const (.int .u32 0))⟩, ⟨(some 5), none, .move (.const (.int .u32 0))⟩])
  (.seq (.ops [⟨(some 7), none, .move (.tmp 0)⟩, ⟨(some 8), none, .conv .u64 (.tmp 7)⟩, ⟨(some 9), none, .move (.tmp 1)⟩, ⟨(some 10), none, .conv .u64 (.tmp 9)⟩, ⟨(some 11), none, .bin .mul none (.tmp 8) (.tmp 10)⟩, ⟨(some 6), none, .move (.tmp 11)⟩])
  (.seq (.ops [⟨(some 12), none, .move (.tmp 6)⟩, ⟨(some 13), none, .bin .shr none (.tmp 12) (.const (.int .u64 32))⟩, ⟨(some 14), none, .conv .u32 (.tmp 13)⟩, ⟨(some 15), none, .move (.tmp 6)⟩, ⟨(some 16), none, .conv .u32 (.tmp 15)⟩, ⟨(some 4), none, .move (.tmp 14)⟩, ⟨(some 5), none, .move (.tmp 16)⟩])
  .ret))), [(4, none), (5, none)]⟩
/-- math/bits.Mul64 -/
def ir119 : IF := ⟨(.seq (.ops [⟨(some 4), none, .move (.const (.int .u64 0))⟩, ⟨(some 5), none, .move (.const (.int .u64 0))⟩])
  (.seq (.ops [⟨(some 14), none, .move (.tmp 0)⟩, ⟨(some 15), none, .bin .and none (.tmp 14) (.const (.int .u64 4294967295))⟩, ⟨(some 6), none, .move (.tmp 15)⟩])
  (.seq (.ops [⟨(some 16), none, .move (.tmp 0)⟩, ⟨(some 17), none, .bin .shr none (.tmp 16) (.const (.int .u64 32))⟩, ⟨(some 7), none, .move (.tmp 17)⟩])
  (.seq (.ops [⟨(some 18), none, .move (.tmp 1)⟩, ⟨(some 19), none, .bin .and none (.tmp 18) (.const (.int .u64 4294967295))⟩, ⟨(some 8), none, .move (.tmp 19)⟩])
  (.seq (.ops [⟨(some 20), none, .move (.tmp 1)⟩, ⟨(some 21), none, .bin .shr none (.tmp 20) (.const (.int .u64 32))⟩, ⟨(some 9), none, .move (.tmp 21)⟩])
  (.seq (.ops [⟨(some 22), none, .move (.tmp 6)⟩, ⟨(some 23), none, .move (.tmp 8)⟩, ⟨(some 24), none, .bin .mul none (.tmp 22) (.tmp 23)⟩, ⟨(some 10), none, .move (.tmp 24)⟩])
  (.seq (.ops [⟨(some 25), none, .move (.tmp 7)⟩, ⟨(some 26), none, .move (.tmp 8)⟩, ⟨(some 27), none, .bin .mul none (.tmp 25) (.tmp 26)⟩, ⟨(some 28), none, .move (.tmp 10)⟩, ⟨(some 29), none, .bin .shr none (.tmp 28) (.const (.int .u64 32))⟩, ⟨(some 30), none, .bin .add none (.tmp 27) (.tmp 29)⟩, ⟨(some 11), none, .move (.tmp 30)⟩])
  (.seq (.ops [⟨(some 31), none, .move (.tmp 11)⟩, ⟨(some 32), none, .bin .and none (.tmp 31) (.const (.int .u64 4294967295))⟩, ⟨(some 12), none, .move (.tmp 32)⟩])
  (.seq (.ops [⟨(some 33), none, .move (.tmp 11)⟩, ⟨(some 34), none, .bin .shr none (.tmp 33) (.const (.int .u64 32))⟩, ⟨(some 13), none, .move (.tmp 34)⟩])
  (.seq (.ops [⟨(some 35), none, .move (.tmp 12)⟩, ⟨(some 36), none, .move (.tmp 6)⟩, ⟨(some 37), none, .move (.tmp 9)⟩, ⟨(some 38), none, .bin .mul none (.tmp 36) (.tmp 37)⟩, ⟨(some 39), none, .bin .add none (.tmp 35) (.tmp 38)⟩, ⟨(some 12), none, .move (.tmp 39)⟩])
  (.seq (.ops [⟨(some 40), none, .move (.tmp 7)⟩, ⟨(some 41), none, .move (.tmp 9)⟩, ⟨(some 42), none, .bin .mul none (.tmp 40) (.tmp 41)⟩, ⟨(some 43), none, .move (.tmp 13)⟩, ⟨(some 44), none, .bin .add none (.tmp 42) (.tmp 43)⟩, ⟨(some 45), none, .move (.tmp 12)⟩, ⟨(some 46), none, .bin .shr none (.tmp 45) (.const (.int .u64 32))⟩, ⟨(some 47), none, .bin .add none (.tmp 44) (.tmp 46)⟩, ⟨(some 4), none, .move (.tmp 47)⟩])
  (.seq (.ops [⟨(some 48), none, .move (.tmp 0)⟩, ⟨(some 49), none, .move (.tmp 1)⟩, ⟨(some 50), none, .bin .mul none (.tmp 48) (.tmp 49)⟩, ⟨(some 5), none, .move (.tmp 50)⟩])
  .ret)))))))))))), [(4, none), (5, none)]⟩
/-- (*headword/see.odd).take -/
def ir145 : IF := ⟨(.seq (.ops [⟨(some 4), none, .move (.tmp 1)⟩, ⟨(some 5), none, .len (.tmp 4)⟩, ⟨(some 6), none, .bin .rem none (.tmp 5) (.const (.int .i64 2))⟩, ⟨(some 7), none, .bin .eql none (.tmp 6) (.const (.int .i64 1))⟩, ⟨(some 8), none, .move (.tmp 7)⟩, ⟨(some 9), (some (8, true)), .move (.tmp 0)⟩, ⟨(some 10), (some (8, true)), .nil (.tmp 9)⟩, ⟨(some 11), (some (8, true)), .fieldAddr 0 (.tmp 10)⟩, ⟨(some 12), (some (8, true)), .load 1 false (.tmp 11)⟩, ⟨(some 13), (some (8, true)), .bin .eql (some 0) (.tmp 12) (.const (.slice none 0 0))⟩, ⟨(some 14), (some (8, true)), .move (.tmp 13)⟩, ⟨(some 15), (some (14, false)), .move (.tmp 1)⟩, ⟨(some 16), (some (14, false)), .len (.tmp 15)⟩, ⟨(some 17), (some (14, false)), .move (.tmp 0)⟩, ⟨(some 18), (some (14, false)), .nil (.tmp 17)⟩, ⟨(some 19), (some (14, false)), .fieldAddr 0 (.tmp 18)⟩, ⟨(some 20), (some (14, false)), .load 1 false (.tmp 19)⟩, ⟨(some 21), (some (14, false)), .len (.tmp 20)⟩, ⟨(some 22), (some (14, false)), .bin .lss none (.tmp 16) (.tmp 21)⟩, ⟨(some 23), (some (8, true)), .pick (.tmp 14) (.const (.bool true)) (.tmp 22)⟩, ⟨(some 24), (some (8, true)), .move (.tmp 23)⟩, ⟨(some 25), (some (24, false)), .move (.tmp 1)⟩, ⟨(some 26), (some (24, false)), .len (.tmp 25)⟩, ⟨(some 27), (some (24, false)), .move (.tmp 0)⟩, ⟨(some 28), (some (24, false)), .nil (.tmp 27)⟩, ⟨(some 29), (some (24, false)), .fieldAddr 0 (.tmp 28)⟩, ⟨(some 30), (some (24, false)), .load 1 false (.tmp 29)⟩, ⟨(some 31), (some (24, false)), .len (.tmp 30)⟩, ⟨(some 32), (some (24, false)), .bin .eql none (.tmp 26) (.tmp 31)⟩, ⟨(some 33), (some (24, false)), .move (.tmp 32)⟩, ⟨(some 34), (some (33, true)), .move (.tmp 1)⟩, ⟨(some 35), (some (33, true)), .move (.tmp 0)⟩, ⟨(some 36), (some (33, true)), .nil (.tmp 35)⟩, ⟨(some 37), (some (33, true)), .fieldAddr 0 (.tmp 36)⟩, ⟨(some 38), (some (33, true)), .load 1 false (.tmp 37)⟩, ⟨(some 39), (some (33, true)), .call false 48 [(.tmp 34), (.tmp 38)]⟩, ⟨(some 40), (some (33, true)), .bin .lss none (.tmp 39) (.const (.int .i64 0))⟩, ⟨(some 41), (some (24, false)), .pick (.tmp 33) (.tmp 40) (.const (.bool false))⟩, ⟨(some 42), (some (8, true)), .pick (.tmp 24) (.const (.bool true)) (.tmp 41)⟩, ⟨(some 43), none, .pick (.tmp 8) (.tmp 42) (.const (.bool false))⟩])
  (.cond (.tmp 43) (.ops [⟨(some 44), none, .move (.tmp 0)⟩, ⟨(some 45), none, .move (.tmp 1)⟩, ⟨(some 46), none, .callk 58 [(.tmp 45)]⟩, ⟨(some 47), none, .nil (.tmp 44)⟩, ⟨(some 48), none, .fieldAddr 0 (.tmp 47)⟩, ⟨none, none, .store 1 (.tmp 48) (.tmp 46)⟩])
  .skip)), []⟩
/-- (*headword/see.tally).take -/
def lp146_0 : IC := (.seq (.ops [⟨(some 16), none, .bin .lss none (.tmp 15) (.tmp 14)⟩])
  (.seq (.cond (.tmp 16) .skip
  (.exit 0))
  (.seq (.block 1 (.seq (.ops [⟨(some 17), none, .move (.tmp 15)⟩, ⟨(some 18), none, .indexS 1 (.tmp 13) (.tmp 15)⟩, ⟨(some 19), none, .load 1 false (.tmp 18)⟩, ⟨(some 4), none, .move (.tmp 17)⟩, ⟨(some 5), none, .move (.tmp 19)⟩])
    (.ops [⟨(some 20), none, .move (.tmp 0)⟩, ⟨(some 21), none, .move (.tmp 5)⟩, ⟨(some 22), none, .move (.tmp 1)⟩, ⟨(some 23), none, .move (.tmp 4)⟩, ⟨(some 24), none, .bin .add none (.tmp 23) (.const (.int .i64 1))⟩, ⟨(some 25), none, .move (.tmp 1)⟩, ⟨(some 26), none, .len (.tmp 25)⟩, ⟨(some 27), none, .bin .rem none (.tmp 24) (.tmp 26)⟩, ⟨(some 28), none, .indexS 1 (.tmp 22) (.tmp 27)⟩, ⟨(some 29), none, .load 1 false (.tmp 28)⟩, ⟨(some 30), none, .nil (.tmp 20)⟩, ⟨(some 31), none, .fieldAddr 1 (.tmp 30)⟩, ⟨(some 32), none, .indexA 7 7 (.tmp 31) (.tmp 21)⟩, ⟨(some 33), none, .indexA 7 1 (.tmp 32) (.tmp 29)⟩, ⟨(some 34), none, .load 1 false (.tmp 33)⟩, ⟨(some 35), none, .bin .add none (.tmp 34) (.const (.int .i64 1))⟩, ⟨(some 36), none, .nil (.tmp 20)⟩, ⟨(some 37), none, .fieldAddr 1 (.tmp 36)⟩, ⟨(some 38), none, .indexA 7 7 (.tmp 37) (.tmp 21)⟩, ⟨(some 39), none, .indexA 7 1 (.tmp 38) (.tmp 29)⟩, ⟨none, none, .store 1 (.tmp 39) (.tmp 35)⟩])))
  (.ops [⟨(some 40), none, .bin .add none (.tmp 15) (.const (.int .i64 1))⟩, ⟨(some 15), none, .move (.tmp 40)⟩]))))
def ir146 : IF := ⟨(.seq (.ops [⟨(some 6), none, .move (.tmp 0)⟩, ⟨(some 7), none, .nil (.tmp 6)⟩, ⟨(some 8), none, .fieldAddr 0 (.tmp 7)⟩, ⟨(some 9), none, .load 1 false (.tmp 8)⟩, ⟨(some 10), none, .bin .add none (.tmp 9) (.const (.int .i64 1))⟩, ⟨(some 11), none, .nil (.tmp 6)⟩, ⟨(some 12), none, .fieldAddr 0 (.tmp 11)⟩, ⟨none, none, .store 1 (.tmp 12) (.tmp 10)⟩])
  (.seq (.ops [⟨(some 13), none, .move (.tmp 1)⟩, ⟨(some 14), none, .len (.tmp 13)⟩, ⟨(some 15), none, .move (.const (.int .i64 0))⟩])
  (.block 0 (.loop false [0, 1, 13, 14, 15] lp146_0)))), []⟩
end Go.Proofs.YtgohohiaaiogcaaDoor.Vm
