/- What stands here: functions of this program in the form that the evaluator runs. No condition: a later text proves that they are what the program holds. -/
import Derived.Test.YtiifibgadipalaaIr1
namespace Go.Proofs.Ytiifibgadipalaa.Vm
open Go Go.Ev
set_option maxRecDepth 100000
/-- headword/volume.Check -/
def ir25 : IF := ⟨(.seq (.ops [⟨(some 1), none, .box (.tmp 0)⟩, ⟨(some 2), none, .move (.const (.int .i64 0))⟩])
  (.seq (.block 0 (.seq (.ops [⟨(some 6), none, .fieldAddr 0 (.tmp 1)⟩, ⟨(some 7), none, .load 1 false (.tmp 6)⟩, ⟨(some 8), none, .len (.tmp 7)⟩, ⟨(some 9), none, .bin .eql none (.tmp 8) (.const (.int .i64 0))⟩, ⟨(some 5), none, .move (.tmp 9)⟩])
    (.cond (.tmp 5) (.seq (.ops [⟨(some 2), none, .move (.const (.int .i64 4))⟩])
      .ret)
    (.seq (.ops [⟨(some 11), none, .fieldAddr 0 (.tmp 1)⟩, ⟨(some 12), none, .load 1 false (.tmp 11)⟩, ⟨(some 13), none, .len (.tmp 12)⟩, ⟨(some 14), none, .bin .gtr none (.tmp 13) (.const (.int .i64 12))⟩, ⟨(some 10), none, .move (.tmp 14)⟩])
      (.cond (.tmp 10) (.seq (.ops [⟨(some 2), none, .move (.const (.int .i64 3))⟩])
        .ret)
      .skip)))))
  (.seq (.seq (.ops [⟨(some 15), none, .fieldAddr 0 (.tmp 1)⟩, ⟨(some 16), none, .load 1 false (.tmp 15)⟩, ⟨(some 17), none, .len (.tmp 16)⟩, ⟨(some 18), none, .move (.const (.int .i64 0))⟩])
  (.block 1 (.loop true [1, 16, 17, 18] (.seq (.ops [⟨(some 19), none, .bin .lss none (.tmp 18) (.tmp 17)⟩])
      (.seq (.cond (.tmp 19) .skip
      (.exit 1))
      (.seq (.block 2 (.seq (.ops [⟨(some 20), none, .indexS 2 (.tmp 16) (.tmp 18)⟩, ⟨(some 21), none, .load 2 true (.tmp 20)⟩, ⟨(some 4), none, .alloc [(.v (.int .i64 0)), (.v (.int .i64 0))]⟩, ⟨none, none, .store 2 (.tmp 4) (.tmp 21)⟩])
        (.block 3 (.seq (.ops [⟨(some 23), none, .fieldAddr 0 (.tmp 4)⟩, ⟨(some 24), none, .load 1 false (.tmp 23)⟩, ⟨(some 25), none, .fieldAddr 1 (.tmp 4)⟩, ⟨(some 26), none, .load 1 false (.tmp 25)⟩, ⟨(some 27), none, .min (.tmp 24) (.tmp 26)⟩, ⟨(some 28), none, .bin .lss none (.tmp 27) (.const (.int .i64 1))⟩, ⟨(some 29), none, .move (.tmp 28)⟩, ⟨(some 30), (some (29, false)), .fieldAddr 0 (.tmp 4)⟩, ⟨(some 31), (some (29, false)), .load 1 false (.tmp 30)⟩, ⟨(some 32), (some (29, false)), .fieldAddr 1 (.tmp 4)⟩, ⟨(some 33), (some (29, false)), .load 1 false (.tmp 32)⟩, ⟨(some 34), (some (29, false)), .max (.tmp 31) (.tmp 33)⟩, ⟨(some 35), (some (29, false)), .bin .gtr none (.tmp 34) (.const (.int .i64 30))⟩, ⟨(some 36), none, .pick (.tmp 29) (.const (.bool true)) (.tmp 35)⟩, ⟨(some 22), none, .move (.tmp 36)⟩])
          (.cond (.tmp 22) (.seq (.ops [⟨(some 2), none, .move (.const (.int .i64 1))⟩])
            .ret)
          (.seq (.ops [⟨(some 38), none, .fieldAddr 0 (.tmp 4)⟩, ⟨(some 39), none, .load 1 false (.tmp 38)⟩, ⟨(some 40), none, .fieldAddr 1 (.tmp 4)⟩, ⟨(some 41), none, .load 1 false (.tmp 40)⟩, ⟨(some 42), none, .bin .gtr none (.tmp 39) (.tmp 41)⟩, ⟨(some 37), none, .move (.tmp 42)⟩])
            (.cond (.tmp 37) (.seq (.ops [⟨(some 2), none, .move (.const (.int .i64 7))⟩])
              .ret)
            .skip)))))))
      (.ops [⟨(some 43), none, .bin .add none (.tmp 18) (.const (.int .i64 1))⟩, ⟨(some 18), none, .move (.tmp 43)⟩])))))))
  (.seq (.seq (.ops [⟨(some 44), none, .fieldAddr 1 (.tmp 1)⟩, ⟨(some 45), none, .load 1 false (.tmp 44)⟩, ⟨(some 46), none, .bin .lss none (.tmp 45) (.const (.int .i64 1))⟩, ⟨(some 47), none, .move (.tmp 46)⟩, ⟨(some 48), (some (47, false)), .fieldAddr 1 (.tmp 1)⟩, ⟨(some 49), (some (47, false)), .load 1 false (.tmp 48)⟩, ⟨(some 50), (some (47, false)), .bin .gtr none (.tmp 49) (.const (.int .i64 100))⟩, ⟨(some 51), none, .pick (.tmp 47) (.const (.bool true)) (.tmp 50)⟩, ⟨(some 52), none, .move (.tmp 51)⟩, ⟨(some 53), (some (52, false)), .fieldAddr 2 (.tmp 1)⟩, ⟨(some 54), (some (52, false)), .load 1 false (.tmp 53)⟩, ⟨(some 55), (some (52, false)), .bin .lss none (.tmp 54) (.const (.int .i64 0))⟩, ⟨(some 56), none, .pick (.tmp 52) (.const (.bool true)) (.tmp 55)⟩, ⟨(some 57), none, .move (.tmp 56)⟩, ⟨(some 58), (some (57, false)), .fieldAddr 2 (.tmp 1)⟩, ⟨(some 59), (some (57, false)), .load 1 false (.tmp 58)⟩, ⟨(some 60), (some (57, false)), .fieldAddr 1 (.tmp 1)⟩, ⟨(some 61), (some (57, false)), .load 1 false (.tmp 60)⟩, ⟨(some 62), (some (57, false)), .bin .gtr none (.tmp 59) (.tmp 61)⟩, ⟨(some 63), none, .pick (.tmp 57) (.const (.bool true)) (.tmp 62)⟩])
  (.cond (.tmp 63) (.seq (.ops [⟨(some 2), none, .move (.const (.int .i64 1))⟩])
    .ret)
  .skip))
  (.seq (.ops [⟨(some 2), none, .move (.const (.int .i64 0))⟩])
  .ret))))), [(2, none)]⟩
/-- headword/headwordref10.Check -/
def ir26 : IF := ⟨(.seq (.ops [⟨(some 1), none, .box (.tmp 0)⟩, ⟨(some 2), none, .move (.const (.int .i64 0))⟩])
  (.seq (.seq (.ops [⟨(some 5), none, .fieldAddr 0 (.tmp 1)⟩, ⟨(some 6), none, .load 1 false (.tmp 5)⟩, ⟨(some 7), none, .len (.tmp 6)⟩, ⟨(some 8), none, .bin .eql none (.tmp 7) (.const (.int .i64 0))⟩])
  (.cond (.tmp 8) (.seq (.ops [⟨(some 2), none, .move (.const (.int .i64 4))⟩])
    .ret)
  .skip))
  (.seq (.seq (.ops [⟨(some 9), none, .fieldAddr 0 (.tmp 1)⟩, ⟨(some 10), none, .load 1 false (.tmp 9)⟩, ⟨(some 11), none, .len (.tmp 10)⟩, ⟨(some 12), none, .bin .gtr none (.tmp 11) (.const (.int .i64 12))⟩])
  (.cond (.tmp 12) (.seq (.ops [⟨(some 2), none, .move (.const (.int .i64 3))⟩])
    .ret)
  .skip))
  (.seq (.seq (.ops [⟨(some 3), none, .move (.const (.int .i64 0))⟩])
  (.block 0 (.loop true [1, 3] (.seq (.seq (.ops [⟨(some 13), none, .move (.tmp 3)⟩, ⟨(some 14), none, .fieldAddr 0 (.tmp 1)⟩, ⟨(some 15), none, .load 1 false (.tmp 14)⟩, ⟨(some 16), none, .len (.tmp 15)⟩, ⟨(some 17), none, .bin .lss none (.tmp 13) (.tmp 16)⟩])
      (.cond (.tmp 17) .skip
      (.exit 0)))
      (.seq (.block 1 (.seq (.ops [⟨(some 20), none, .fieldAddr 0 (.tmp 1)⟩, ⟨(some 21), none, .load 1 false (.tmp 20)⟩, ⟨(some 22), none, .move (.tmp 3)⟩, ⟨(some 23), none, .indexS 2 (.tmp 21) (.tmp 22)⟩, ⟨(some 24), none, .load 2 true (.tmp 23)⟩, ⟨(some 4), none, .alloc [(.v (.int .i64 0)), (.v (.int .i64 0))]⟩, ⟨none, none, .store 2 (.tmp 4) (.tmp 24)⟩])
        (.seq (.seq (.ops [⟨(some 25), none, .fieldAddr 0 (.tmp 4)⟩, ⟨(some 26), none, .load 1 false (.tmp 25)⟩, ⟨(some 27), none, .call true 77 [(.tmp 26), (.const (.int .i64 1)), (.const (.int .i64 30))]⟩, ⟨(some 28), none, .not (.tmp 27)⟩, ⟨(some 29), none, .move (.tmp 28)⟩, ⟨(some 30), (some (29, false)), .fieldAddr 1 (.tmp 4)⟩, ⟨(some 31), (some (29, false)), .load 1 false (.tmp 30)⟩, ⟨(some 32), (some (29, false)), .call true 77 [(.tmp 31), (.const (.int .i64 1)), (.const (.int .i64 30))]⟩, ⟨(some 33), (some (29, false)), .not (.tmp 32)⟩, ⟨(some 34), none, .pick (.tmp 29) (.const (.bool true)) (.tmp 33)⟩])
        (.cond (.tmp 34) (.seq (.ops [⟨(some 2), none, .move (.const (.int .i64 1))⟩])
          .ret)
        .skip))
        (.seq (.ops [⟨(some 35), none, .fieldAddr 0 (.tmp 4)⟩, ⟨(some 36), none, .load 1 false (.tmp 35)⟩, ⟨(some 37), none, .fieldAddr 1 (.tmp 4)⟩, ⟨(some 38), none, .load 1 false (.tmp 37)⟩, ⟨(some 39), none, .bin .gtr none (.tmp 36) (.tmp 38)⟩])
        (.cond (.tmp 39) (.seq (.ops [⟨(some 2), none, .move (.const (.int .i64 7))⟩])
          .ret)
        .skip)))))
      (.ops [⟨(some 18), none, .move (.tmp 3)⟩, ⟨(some 19), none, .bin .add none (.tmp 18) (.const (.int .i64 1))⟩, ⟨(some 3), none, .move (.tmp 19)⟩]))))))
  (.seq (.seq (.ops [⟨(some 40), none, .fieldAddr 1 (.tmp 1)⟩, ⟨(some 41), none, .load 1 false (.tmp 40)⟩, ⟨(some 42), none, .call true 77 [(.tmp 41), (.const (.int .i64 1)), (.const (.int .i64 100))]⟩, ⟨(some 43), none, .not (.tmp 42)⟩, ⟨(some 44), none, .move (.tmp 43)⟩, ⟨(some 45), (some (44, false)), .fieldAddr 2 (.tmp 1)⟩, ⟨(some 46), (some (44, false)), .load 1 false (.tmp 45)⟩, ⟨(some 47), (some (44, false)), .fieldAddr 1 (.tmp 1)⟩, ⟨(some 48), (some (44, false)), .load 1 false (.tmp 47)⟩, ⟨(some 49), (some (44, false)), .call true 77 [(.tmp 46), (.const (.int .i64 0)), (.tmp 48)]⟩, ⟨(some 50), (some (44, false)), .not (.tmp 49)⟩, ⟨(some 51), none, .pick (.tmp 44) (.const (.bool true)) (.tmp 50)⟩])
  (.cond (.tmp 51) (.seq (.ops [⟨(some 2), none, .move (.const (.int .i64 1))⟩])
    .ret)
  .skip))
  (.seq (.ops [⟨(some 2), none, .move (.const (.int .i64 0))⟩])
  .ret)))))), [(2, none)]⟩
/-- headword/volume.Holds -/
def ir27 : IF := ⟨(.seq (.ops [⟨(some 2), none, .box (.tmp 0)⟩, ⟨(some 4), none, .move (.const (.int .i64 0))⟩])
  (.seq (.ops [⟨(some 6), none, .load 3 true (.tmp 2)⟩, ⟨(some 7), none, .move (.tmp 1)⟩, ⟨(some 8), none, .call true 65 [(.tmp 6), (.tmp 7)]⟩, ⟨(some 5), none, .move (.tmp 8)⟩])
  (.seq (.seq (.ops [⟨(some 9), none, .move (.tmp 5)⟩, ⟨(some 10), none, .bin .eql none (.tmp 9) (.const (.int .i64 0))⟩, ⟨(some 11), none, .move (.tmp 10)⟩, ⟨(some 12), (some (11, true)), .load 3 true (.tmp 2)⟩, ⟨(some 13), (some (11, true)), .move (.tmp 1)⟩, ⟨(some 14), (some (11, true)), .call true 67 [(.tmp 12), (.tmp 13), (.func 68)]⟩, ⟨(some 15), (some (11, true)), .bin .geq none (.tmp 14) (.const (.int .i64 0))⟩, ⟨(some 16), none, .pick (.tmp 11) (.tmp 15) (.const (.bool false))⟩])
  (.cond (.tmp 16) (.ops [⟨(some 5), none, .move (.const (.int .i64 15))⟩])
  .skip))
  (.seq (.ops [⟨(some 17), none, .move (.tmp 5)⟩, ⟨(some 4), none, .move (.tmp 17)⟩])
  .ret)))), [(4, none)]⟩
/-- headword/headwordref10.Holds -/
def ir28 : IF := ⟨(.seq (.ops [⟨(some 2), none, .box (.tmp 0)⟩, ⟨(some 4), none, .move (.const (.int .i64 0))⟩])
  (.seq (.ops [⟨(some 6), none, .load 3 true (.tmp 2)⟩, ⟨(some 7), none, .move (.tmp 1)⟩, ⟨(some 8), none, .call true 69 [(.tmp 6), (.tmp 7)]⟩, ⟨(some 5), none, .move (.tmp 8)⟩])
  (.seq (.seq (.ops [⟨(some 9), none, .move (.tmp 5)⟩, ⟨(some 10), none, .bin .eql none (.tmp 9) (.const (.int .i64 0))⟩, ⟨(some 11), none, .move (.tmp 10)⟩, ⟨(some 12), (some (11, true)), .load 3 true (.tmp 2)⟩, ⟨(some 13), (some (11, true)), .move (.tmp 1)⟩, ⟨(some 14), (some (11, true)), .call true 70 [(.tmp 12), (.tmp 13)]⟩, ⟨(some 15), (some (11, true)), .move (.tmp 1)⟩, ⟨(some 16), (some (11, true)), .len (.tmp 15)⟩, ⟨(some 17), (some (11, true)), .bin .lss none (.tmp 14) (.tmp 16)⟩, ⟨(some 18), none, .pick (.tmp 11) (.tmp 17) (.const (.bool false))⟩])
  (.cond (.tmp 18) (.ops [⟨(some 5), none, .move (.const (.int .i64 15))⟩])
  .skip))
  (.seq (.ops [⟨(some 19), none, .move (.tmp 5)⟩, ⟨(some 4), none, .move (.tmp 19)⟩])
  .ret)))), [(4, none)]⟩
/-- headword/volume.Safe -/
def ir29 : IF := ⟨(.seq (.ops [⟨(some 2), none, .box (.tmp 0)⟩, ⟨(some 4), none, .move (.const (.int .i64 0))⟩])
  (.seq (.ops [⟨(some 6), none, .load 3 true (.tmp 2)⟩, ⟨(some 7), none, .move (.tmp 1)⟩, ⟨(some 8), none, .call true 27 [(.tmp 6), (.tmp 7)]⟩, ⟨(some 5), none, .move (.tmp 8)⟩])
  (.seq (.seq (.ops [⟨(some 9), none, .move (.tmp 5)⟩, ⟨(some 10), none, .bin .eql none (.tmp 9) (.const (.int .i64 0))⟩, ⟨(some 11), none, .move (.tmp 10)⟩, ⟨(some 12), (some (11, true)), .load 3 true (.tmp 2)⟩, ⟨(some 13), (some (11, true)), .call true 75 [(.tmp 12), (.func 71)]⟩, ⟨(some 14), (some (11, true)), .move (.tmp 1)⟩, ⟨(some 15), (some (11, true)), .func (.func 80) [] [(.tmp 2)]⟩, ⟨(some 16), (some (11, true)), .call false 79 [(.tmp 13), (.tmp 14), (.tmp 15)]⟩, ⟨(some 17), (some (11, true)), .bin .geq none (.tmp 16) (.const (.int .i64 0))⟩, ⟨(some 18), none, .pick (.tmp 11) (.tmp 17) (.const (.bool false))⟩])
  (.cond (.tmp 18) (.ops [⟨(some 5), none, .move (.const (.int .i64 21))⟩])
  .skip))
  (.seq (.ops [⟨(some 19), none, .move (.tmp 5)⟩, ⟨(some 4), none, .move (.tmp 19)⟩])
  .ret)))), [(4, none)]⟩
/-- headword/headwordref10.Safe -/
def ir30 : IF := ⟨(.seq (.ops [⟨(some 2), none, .box (.tmp 0)⟩, ⟨(some 4), none, .move (.const (.int .i64 0))⟩])
  (.seq (.ops [⟨(some 6), none, .load 3 true (.tmp 2)⟩, ⟨(some 7), none, .move (.tmp 1)⟩, ⟨(some 8), none, .call true 28 [(.tmp 6), (.tmp 7)]⟩, ⟨(some 5), none, .move (.tmp 8)⟩])
  (.seq (.seq (.ops [⟨(some 9), none, .move (.tmp 5)⟩, ⟨(some 10), none, .bin .eql none (.tmp 9) (.const (.int .i64 0))⟩, ⟨(some 11), none, .move (.tmp 10)⟩, ⟨(some 12), (some (11, true)), .load 3 true (.tmp 2)⟩, ⟨(some 13), (some (11, true)), .move (.tmp 1)⟩, ⟨(some 14), (some (11, true)), .call true 81 [(.tmp 12), (.tmp 13)]⟩, ⟨(some 15), none, .pick (.tmp 11) (.tmp 14) (.const (.bool false))⟩])
  (.cond (.tmp 15) (.ops [⟨(some 5), none, .move (.const (.int .i64 21))⟩])
  .skip))
  (.seq (.ops [⟨(some 16), none, .move (.tmp 5)⟩, ⟨(some 4), none, .move (.tmp 16)⟩])
  .ret)))), [(4, none)]⟩
/-- headword/volume.Fewest -/
def ir31 : IF := ⟨(.seq (.ops [⟨(some 1), none, .box (.tmp 0)⟩, ⟨(some 2), none, .move (.const (.slice none 0 0))⟩, ⟨(some 3), none, .move (.const (.int .i64 0))⟩])
  (.seq (.seq (.ops [⟨(some 6), none, .load 3 true (.tmp 1)⟩, ⟨(some 7), none, .call true 25 [(.tmp 6)]⟩, ⟨(some 4), none, .move (.tmp 7)⟩])
  (.seq (.ops [⟨(some 8), none, .move (.tmp 4)⟩, ⟨(some 9), none, .bin .neq none (.tmp 8) (.const (.int .i64 0))⟩])
  (.cond (.tmp 9) (.seq (.ops [⟨(some 10), none, .move (.tmp 4)⟩, ⟨(some 2), none, .move (.const (.slice none 0 0))⟩, ⟨(some 3), none, .move (.tmp 10)⟩])
    .ret)
  .skip)))
  (.seq (.ops [⟨(some 11), none, .load 3 true (.tmp 1)⟩, ⟨(some 12), none, .call true 75 [(.tmp 11), (.func 68)]⟩, ⟨(some 13), none, .fieldAddr 1 (.tmp 1)⟩, ⟨(some 14), none, .load 1 false (.tmp 13)⟩, ⟨(some 15), none, .call true 82 [(.tmp 12), (.tmp 14)]⟩, ⟨(some 5), none, .move (.tmp 15)⟩])
  (.seq (.seq (.ops [⟨(some 16), none, .move (.tmp 5)⟩, ⟨(some 17), none, .bin .eql (some 0) (.tmp 16) (.const (.slice none 0 0))⟩])
  (.cond (.tmp 17) (.seq (.ops [⟨(some 2), none, .move (.const (.slice none 0 0))⟩, ⟨(some 3), none, .move (.const (.int .i64 12))⟩])
    .ret)
  .skip))
  (.seq (.ops [⟨(some 18), none, .move (.tmp 5)⟩, ⟨(some 2), none, .move (.tmp 18)⟩, ⟨(some 3), none, .move (.const (.int .i64 0))⟩])
  .ret))))), [(2, none), (3, none)]⟩
/-- headword/headwordref10.Fewest -/
def ir32 : IF := ⟨(.seq (.ops [⟨(some 1), none, .box (.tmp 0)⟩, ⟨(some 2), none, .move (.const (.slice none 0 0))⟩, ⟨(some 3), none, .move (.const (.int .i64 0))⟩])
  (.seq (.ops [⟨(some 8), none, .load 3 true (.tmp 1)⟩, ⟨(some 9), none, .call true 26 [(.tmp 8)]⟩, ⟨(some 4), none, .move (.tmp 9)⟩])
  (.seq (.seq (.ops [⟨(some 10), none, .move (.tmp 4)⟩, ⟨(some 11), none, .bin .neq none (.tmp 10) (.const (.int .i64 0))⟩])
  (.cond (.tmp 11) (.seq (.ops [⟨(some 12), none, .move (.tmp 4)⟩, ⟨(some 2), none, .move (.const (.slice none 0 0))⟩, ⟨(some 3), none, .move (.tmp 12)⟩])
    .ret)
  .skip))
  (.seq (.ops [⟨(some 13), none, .load 3 true (.tmp 1)⟩, ⟨(some 14), none, .call true 83 [(.tmp 13), (.const (.bool false))]⟩, ⟨(some 5), none, .move (.tmp 14)⟩])
  (.seq (.seq (.ops [⟨(some 15), none, .move (.tmp 5)⟩, ⟨(some 16), none, .len (.tmp 15)⟩, ⟨(some 17), none, .bin .eql none (.tmp 16) (.const (.int .i64 0))⟩])
  (.cond (.tmp 17) (.seq (.ops [⟨(some 2), none, .move (.const (.slice none 0 0))⟩, ⟨(some 3), none, .move (.const (.int .i64 12))⟩])
    .ret)
  .skip))
  (.seq (.ops [⟨(some 18), none, .move (.tmp 5)⟩, ⟨(some 19), none, .indexS 1 (.tmp 18) (.const (.int .i64 0))⟩, ⟨(some 20), none, .load 1 false (.tmp 19)⟩, ⟨(some 6), none, .move (.tmp 20)⟩])
  (.seq (.seq (.ops [⟨(some 7), none, .move (.const (.int .i64 1))⟩])
  (.block 0 (.loop true [5, 6, 7] (.seq (.seq (.ops [⟨(some 21), none, .move (.tmp 7)⟩, ⟨(some 22), none, .move (.tmp 5)⟩, ⟨(some 23), none, .len (.tmp 22)⟩, ⟨(some 24), none, .bin .lss none (.tmp 21) (.tmp 23)⟩])
      (.cond (.tmp 24) .skip
      (.exit 0)))
      (.seq (.block 1 (.seq (.ops [⟨(some 27), none, .move (.tmp 5)⟩, ⟨(some 28), none, .move (.tmp 7)⟩, ⟨(some 29), none, .indexS 1 (.tmp 27) (.tmp 28)⟩, ⟨(some 30), none, .load 1 false (.tmp 29)⟩, ⟨(some 31), none, .len (.tmp 30)⟩, ⟨(some 32), none, .move (.tmp 6)⟩, ⟨(some 33), none, .len (.tmp 32)⟩, ⟨(some 34), none, .bin .leq none (.tmp 31) (.tmp 33)⟩])
        (.cond (.tmp 34) (.ops [⟨(some 35), none, .move (.tmp 5)⟩, ⟨(some 36), none, .move (.tmp 7)⟩, ⟨(some 37), none, .indexS 1 (.tmp 35) (.tmp 36)⟩, ⟨(some 38), none, .load 1 false (.tmp 37)⟩, ⟨(some 6), none, .move (.tmp 38)⟩])
        .skip)))
      (.ops [⟨(some 25), none, .move (.tmp 7)⟩, ⟨(some 26), none, .bin .add none (.tmp 25) (.const (.int .i64 1))⟩, ⟨(some 7), none, .move (.tmp 26)⟩]))))))
  (.seq (.ops [⟨(some 39), none, .move (.tmp 6)⟩, ⟨(some 2), none, .move (.tmp 39)⟩, ⟨(some 3), none, .move (.const (.int .i64 0))⟩])
  .ret)))))))), [(2, none), (3, none)]⟩
/-- headword/volume.Level -/
def ir33 : IF := ⟨(.seq (.ops [⟨(some 2), none, .box (.tmp 0)⟩, ⟨(some 4), none, .move (.const (.int .i64 0))⟩, ⟨(some 5), none, .move (.const (.int .i64 0))⟩])
  (.seq (.ops [⟨(some 12), none, .load 3 true (.tmp 2)⟩, ⟨(some 13), none, .call true 25 [(.tmp 12)]⟩, ⟨(some 6), none, .move (.tmp 13)⟩])
  (.seq (.block 0 (.seq (.ops [⟨(some 15), none, .move (.tmp 6)⟩, ⟨(some 16), none, .bin .neq none (.tmp 15) (.const (.int .i64 0))⟩, ⟨(some 14), none, .move (.tmp 16)⟩])
    (.cond (.tmp 14) (.seq (.ops [⟨(some 17), none, .move (.tmp 6)⟩, ⟨(some 4), none, .move (.const (.int .i64 0))⟩, ⟨(some 5), none, .move (.tmp 17)⟩])
      .ret)
    (.seq (.ops [⟨(some 19), none, .move (.tmp 1)⟩, ⟨(some 20), none, .bin .lss none (.tmp 19) (.const (.int .i64 1))⟩, ⟨(some 21), none, .move (.tmp 20)⟩, ⟨(some 22), (some (21, false)), .move (.tmp 1)⟩, ⟨(some 23), (some (21, false)), .fieldAddr 0 (.tmp 2)⟩, ⟨(some 24), (some (21, false)), .load 1 false (.tmp 23)⟩, ⟨(some 25), (some (21, false)), .len (.tmp 24)⟩, ⟨(some 26), (some (21, false)), .bin .gtr none (.tmp 22) (.tmp 25)⟩, ⟨(some 27), none, .pick (.tmp 21) (.const (.bool true)) (.tmp 26)⟩, ⟨(some 18), none, .move (.tmp 27)⟩])
      (.cond (.tmp 18) (.seq (.ops [⟨(some 4), none, .move (.const (.int .i64 0))⟩, ⟨(some 5), none, .move (.const (.int .i64 1))⟩])
        .ret)
      .skip)))))
  (.seq (.ops [⟨(some 28), none, .load 3 true (.tmp 2)⟩, ⟨(some 29), none, .call true 75 [(.tmp 28), (.func 68)]⟩, ⟨(some 7), none, .move (.tmp 29)⟩])
  (.seq (.ops [⟨(some 30), none, .move (.tmp 7)⟩, ⟨(some 31), none, .move (.tmp 7)⟩, ⟨(some 32), none, .len (.tmp 31)⟩, ⟨(some 33), none, .bin .sub none (.tmp 32) (.const (.int .i64 1))⟩, ⟨(some 34), none, .indexS 1 (.tmp 30) (.tmp 33)⟩, ⟨(some 35), none, .load 1 false (.tmp 34)⟩, ⟨(some 8), none, .move (.const (.int .i64 1))⟩, ⟨(some 9), none, .move (.tmp 35)⟩])
  (.seq (.block 1 (.loop true [1, 7, 8, 9] (.seq (.seq (.ops [⟨(some 36), none, .move (.tmp 8)⟩, ⟨(some 37), none, .move (.tmp 9)⟩, ⟨(some 38), none, .bin .lss none (.tmp 36) (.tmp 37)⟩])
      (.cond (.tmp 38) .skip
      (.exit 1)))
      (.block 2 (.seq (.ops [⟨(some 39), none, .move (.tmp 8)⟩, ⟨(some 40), none, .move (.tmp 9)⟩, ⟨(some 41), none, .bin .add none (.tmp 39) (.tmp 40)⟩, ⟨(some 42), none, .bin .quo none (.tmp 41) (.const (.int .i64 2))⟩, ⟨(some 10), none, .move (.tmp 42)⟩])
        (.seq (.ops [⟨(some 43), none, .move (.tmp 7)⟩, ⟨(some 44), none, .move (.tmp 10)⟩, ⟨(some 45), none, .call true 82 [(.tmp 43), (.tmp 44)]⟩, ⟨(some 11), none, .move (.tmp 45)⟩])
        (.seq (.ops [⟨(some 46), none, .move (.tmp 11)⟩, ⟨(some 47), none, .bin .neq (some 0) (.tmp 46) (.const (.slice none 0 0))⟩, ⟨(some 48), none, .move (.tmp 47)⟩, ⟨(some 49), (some (48, true)), .move (.tmp 11)⟩, ⟨(some 50), (some (48, true)), .len (.tmp 49)⟩, ⟨(some 51), (some (48, true)), .move (.tmp 1)⟩, ⟨(some 52), (some (48, true)), .bin .leq none (.tmp 50) (.tmp 51)⟩, ⟨(some 53), none, .pick (.tmp 48) (.tmp 52) (.const (.bool false))⟩])
        (.cond (.tmp 53) (.ops [⟨(some 54), none, .move (.tmp 10)⟩, ⟨(some 9), none, .move (.tmp 54)⟩])
        (.ops [⟨(some 55), none, .move (.tmp 10)⟩, ⟨(some 56), none, .bin .add none (.tmp 55) (.const (.int .i64 1))⟩, ⟨(some 8), none, .move (.tmp 56)⟩])))))))))
  (.seq (.ops [⟨(some 57), none, .move (.tmp 8)⟩, ⟨(some 4), none, .move (.tmp 57)⟩, ⟨(some 5), none, .move (.const (.int .i64 0))⟩])
  .ret))))))), [(4, none), (5, none)]⟩
/-- headword/headwordref10.Level -/
def ir34 : IF := ⟨(.seq (.ops [⟨(some 2), none, .box (.tmp 0)⟩, ⟨(some 4), none, .move (.const (.int .i64 0))⟩, ⟨(some 5), none, .move (.const (.int .i64 0))⟩])
  (.seq (.ops [⟨(some 12), none, .load 3 true (.tmp 2)⟩, ⟨(some 13), none, .call true 26 [(.tmp 12)]⟩, ⟨(some 6), none, .move (.tmp 13)⟩])
  (.seq (.seq (.ops [⟨(some 14), none, .move (.tmp 6)⟩, ⟨(some 15), none, .bin .eql none (.tmp 14) (.const (.int .i64 0))⟩, ⟨(some 16), none, .move (.tmp 15)⟩, ⟨(some 17), (some (16, true)), .move (.tmp 1)⟩, ⟨(some 18), (some (16, true)), .fieldAddr 0 (.tmp 2)⟩, ⟨(some 19), (some (16, true)), .load 1 false (.tmp 18)⟩, ⟨(some 20), (some (16, true)), .len (.tmp 19)⟩, ⟨(some 21), (some (16, true)), .call true 77 [(.tmp 17), (.const (.int .i64 1)), (.tmp 20)]⟩, ⟨(some 22), (some (16, true)), .not (.tmp 21)⟩, ⟨(some 23), none, .pick (.tmp 16) (.tmp 22) (.const (.bool false))⟩])
  (.cond (.tmp 23) (.ops [⟨(some 6), none, .move (.const (.int .i64 1))⟩])
  .skip))
  (.seq (.seq (.ops [⟨(some 24), none, .move (.tmp 6)⟩, ⟨(some 25), none, .bin .neq none (.tmp 24) (.const (.int .i64 0))⟩])
  (.cond (.tmp 25) (.seq (.ops [⟨(some 26), none, .move (.tmp 6)⟩, ⟨(some 4), none, .move (.const (.int .i64 0))⟩, ⟨(some 5), none, .move (.tmp 26)⟩])
    .ret)
  .skip))
  (.seq (.ops [⟨(some 27), none, .load 3 true (.tmp 2)⟩, ⟨(some 28), none, .fieldAddr 0 (.tmp 2)⟩, ⟨(some 29), none, .load 1 false (.tmp 28)⟩, ⟨(some 30), none, .len (.tmp 29)⟩, ⟨(some 31), none, .call true 78 [(.tmp 27), (.const (.int .i64 0)), (.tmp 30)]⟩, ⟨(some 7), none, .move (.tmp 31)⟩])
  (.seq (.ops [⟨(some 32), none, .fieldAddr 0 (.tmp 2)⟩, ⟨(some 33), none, .load 1 false (.tmp 32)⟩, ⟨(some 34), none, .len (.tmp 33)⟩, ⟨(some 35), none, .call true 84 [(.tmp 34), (.const (.slice none 0 0))]⟩, ⟨(some 8), none, .move (.tmp 35)⟩])
  (.seq (.seq (.ops [⟨(some 9), none, .move (.const (.int .i64 0))⟩])
  (.block 0 (.loop true [1, 2, 7, 8, 9] (.seq (.seq (.ops [⟨(some 36), none, .move (.tmp 9)⟩, ⟨(some 37), none, .move (.tmp 8)⟩, ⟨(some 38), none, .len (.tmp 37)⟩, ⟨(some 39), none, .bin .lss none (.tmp 36) (.tmp 38)⟩])
      (.cond (.tmp 39) .skip
      (.exit 0)))
      (.seq (.block 1 (.seq (.ops [⟨(some 10), none, .move (.const (.int .i64 0))⟩])
        (.seq (.seq (.ops [⟨(some 11), none, .move (.const (.int .i64 0))⟩])
        (.block 2 (.loop true [1, 2, 7, 8, 9, 10, 11] (.seq (.seq (.ops [⟨(some 42), none, .move (.tmp 11)⟩, ⟨(some 43), none, .move (.tmp 8)⟩, ⟨(some 44), none, .move (.tmp 9)⟩, ⟨(some 45), none, .indexS 1 (.tmp 43) (.tmp 44)⟩, ⟨(some 46), none, .load 1 false (.tmp 45)⟩, ⟨(some 47), none, .len (.tmp 46)⟩, ⟨(some 48), none, .bin .lss none (.tmp 42) (.tmp 47)⟩])
            (.cond (.tmp 48) .skip
            (.exit 2)))
            (.seq (.block 3 (.ops [⟨(some 51), none, .move (.tmp 10)⟩, ⟨(some 52), none, .load 3 true (.tmp 2)⟩, ⟨(some 53), none, .move (.tmp 8)⟩, ⟨(some 54), none, .move (.tmp 9)⟩, ⟨(some 55), none, .indexS 1 (.tmp 53) (.tmp 54)⟩, ⟨(some 56), none, .load 1 false (.tmp 55)⟩, ⟨(some 57), none, .move (.tmp 11)⟩, ⟨(some 58), none, .call true 73 [(.tmp 56), (.tmp 57)]⟩, ⟨(some 59), none, .move (.tmp 8)⟩, ⟨(some 60), none, .move (.tmp 9)⟩, ⟨(some 61), none, .indexS 1 (.tmp 59) (.tmp 60)⟩, ⟨(some 62), none, .load 1 false (.tmp 61)⟩, ⟨(some 63), none, .move (.tmp 11)⟩, ⟨(some 64), none, .indexS 1 (.tmp 62) (.tmp 63)⟩, ⟨(some 65), none, .load 1 false (.tmp 64)⟩, ⟨(some 66), none, .call true 78 [(.tmp 52), (.tmp 58), (.tmp 65)]⟩, ⟨(some 67), none, .max (.tmp 51) (.tmp 66)⟩, ⟨(some 10), none, .move (.tmp 67)⟩]))
            (.ops [⟨(some 49), none, .move (.tmp 11)⟩, ⟨(some 50), none, .bin .add none (.tmp 49) (.const (.int .i64 1))⟩, ⟨(some 11), none, .move (.tmp 50)⟩]))))))
        (.seq (.ops [⟨(some 68), none, .move (.tmp 8)⟩, ⟨(some 69), none, .move (.tmp 9)⟩, ⟨(some 70), none, .indexS 1 (.tmp 68) (.tmp 69)⟩, ⟨(some 71), none, .load 1 false (.tmp 70)⟩, ⟨(some 72), none, .len (.tmp 71)⟩, ⟨(some 73), none, .move (.tmp 1)⟩, ⟨(some 74), none, .bin .leq none (.tmp 72) (.tmp 73)⟩])
        (.cond (.tmp 74) (.ops [⟨(some 75), none, .move (.tmp 7)⟩, ⟨(some 76), none, .move (.tmp 10)⟩, ⟨(some 77), none, .min (.tmp 75) (.tmp 76)⟩, ⟨(some 7), none, .move (.tmp 77)⟩])
        .skip)))))
      (.ops [⟨(some 40), none, .move (.tmp 9)⟩, ⟨(some 41), none, .bin .add none (.tmp 40) (.const (.int .i64 1))⟩, ⟨(some 9), none, .move (.tmp 41)⟩]))))))
  (.seq (.ops [⟨(some 78), none, .move (.tmp 7)⟩, ⟨(some 4), none, .move (.tmp 78)⟩, ⟨(some 5), none, .move (.const (.int .i64 0))⟩])
  .ret)))))))), [(4, none), (5, none)]⟩
/-- headword/headwordlaw10.same -/
def ir35 : IF := ⟨(.seq (.ops [⟨(some 4), none, .move (.const (.bool false))⟩])
  (.seq (.seq (.ops [⟨(some 6), none, .move (.tmp 0)⟩, ⟨(some 7), none, .len (.tmp 6)⟩, ⟨(some 8), none, .move (.tmp 1)⟩, ⟨(some 9), none, .len (.tmp 8)⟩, ⟨(some 10), none, .bin .neq none (.tmp 7) (.tmp 9)⟩])
  (.cond (.tmp 10) (.seq (.ops [⟨(some 4), none, .move (.const (.bool false))⟩])
    .ret)
  .skip))
  (.seq (.seq (.ops [⟨(some 5), none, .move (.const (.int .i64 0))⟩])
  (.block 0 (.loop true [0, 1, 5] (.seq (.seq (.ops [⟨(some 11), none, .move (.tmp 5)⟩, ⟨(some 12), none, .move (.tmp 0)⟩, ⟨(some 13), none, .len (.tmp 12)⟩, ⟨(some 14), none, .bin .lss none (.tmp 11) (.tmp 13)⟩])
      (.cond (.tmp 14) .skip
      (.exit 0)))
      (.seq (.block 1 (.seq (.ops [⟨(some 17), none, .move (.tmp 0)⟩, ⟨(some 18), none, .move (.tmp 5)⟩, ⟨(some 19), none, .indexS 1 (.tmp 17) (.tmp 18)⟩, ⟨(some 20), none, .load 1 false (.tmp 19)⟩, ⟨(some 21), none, .move (.tmp 1)⟩, ⟨(some 22), none, .move (.tmp 5)⟩, ⟨(some 23), none, .indexS 1 (.tmp 21) (.tmp 22)⟩, ⟨(some 24), none, .load 1 false (.tmp 23)⟩, ⟨(some 25), none, .bin .neq none (.tmp 20) (.tmp 24)⟩])
        (.cond (.tmp 25) (.seq (.ops [⟨(some 4), none, .move (.const (.bool false))⟩])
          .ret)
        .skip)))
      (.ops [⟨(some 15), none, .move (.tmp 5)⟩, ⟨(some 16), none, .bin .add none (.tmp 15) (.const (.int .i64 1))⟩, ⟨(some 5), none, .move (.tmp 16)⟩]))))))
  (.seq (.ops [⟨(some 4), none, .move (.const (.bool true))⟩])
  .ret)))), [(4, none)]⟩
/-- headword/volume.Why -/
def ir36 : IF := ⟨(.seq (.ops [⟨(some 1), none, .box (.tmp 0)⟩, ⟨(some 2), none, .move (.const (.slice none 0 0))⟩, ⟨(some 3), none, .move (.const (.int .i64 0))⟩])
  (.seq (.seq (.ops [⟨(some 14), none, .load 3 true (.tmp 1)⟩, ⟨(some 15), none, .call true 31 [(.tmp 14)]⟩, ⟨(some 13), none, .move (.tmp 15)⟩, ⟨(some 16), none, .extract 0 (.tmp 13)⟩, ⟨(some 17), none, .extract 1 (.tmp 13)⟩, ⟨(some 4), none, .move (.tmp 16)⟩, ⟨(some 5), none, .move (.tmp 17)⟩])
  (.seq (.ops [⟨(some 18), none, .move (.tmp 5)⟩, ⟨(some 19), none, .bin .neq none (.tmp 18) (.const (.int .i64 0))⟩])
  (.cond (.tmp 19) (.seq (.ops [⟨(some 20), none, .move (.tmp 5)⟩, ⟨(some 2), none, .move (.const (.slice none 0 0))⟩, ⟨(some 3), none, .move (.tmp 20)⟩])
    .ret)
  .skip)))
  (.seq (.ops [⟨(some 21), none, .load 3 true (.tmp 1)⟩, ⟨(some 22), none, .call true 75 [(.tmp 21), (.func 68)]⟩, ⟨(some 23), none, .fieldAddr 0 (.tmp 1)⟩, ⟨(some 24), none, .load 1 false (.tmp 23)⟩, ⟨(some 25), none, .len (.tmp 24)⟩, ⟨(some 6), none, .move (.tmp 22)⟩, ⟨(some 7), none, .move (.tmp 25)⟩])
  (.seq (.ops [⟨(some 26), none, .move (.tmp 7)⟩, ⟨(some 27), none, .make 1 false [(.v (.int .i64 0))] (.tmp 26) (.tmp 26)⟩, ⟨(some 28), none, .move (.tmp 7)⟩, ⟨(some 29), none, .bin .add none (.tmp 28) (.const (.int .i64 1))⟩, ⟨(some 30), none, .make 1 false [(.v (.int .i64 0))] (.tmp 29) (.tmp 29)⟩, ⟨(some 8), none, .move (.tmp 27)⟩, ⟨(some 9), none, .move (.tmp 30)⟩])
  (.seq (.seq (.ops [⟨(some 31), none, .move (.tmp 7)⟩, ⟨(some 32), none, .bin .sub none (.tmp 31) (.const (.int .i64 1))⟩, ⟨(some 10), none, .move (.tmp 32)⟩])
  (.block 0 (.loop true [1, 6, 7, 8, 9, 10] (.seq (.seq (.ops [⟨(some 33), none, .move (.tmp 10)⟩, ⟨(some 34), none, .bin .geq none (.tmp 33) (.const (.int .i64 0))⟩])
      (.cond (.tmp 34) .skip
      (.exit 0)))
      (.seq (.block 1 (.seq (.ops [⟨(some 37), none, .move (.tmp 9)⟩, ⟨(some 38), none, .move (.tmp 10)⟩, ⟨(some 39), none, .move (.tmp 9)⟩, ⟨(some 40), none, .move (.tmp 10)⟩, ⟨(some 41), none, .bin .add none (.tmp 40) (.const (.int .i64 1))⟩, ⟨(some 42), none, .indexS 1 (.tmp 39) (.tmp 41)⟩, ⟨(some 43), none, .load 1 false (.tmp 42)⟩, ⟨(some 44), none, .indexS 1 (.tmp 37) (.tmp 38)⟩, ⟨none, none, .store 1 (.tmp 44) (.tmp 43)⟩])
        (.seq (.ops [⟨(some 45), none, .move (.tmp 8)⟩, ⟨(some 46), none, .move (.tmp 10)⟩, ⟨(some 47), none, .move (.tmp 10)⟩, ⟨(some 48), none, .bin .add none (.tmp 47) (.const (.int .i64 1))⟩, ⟨(some 49), none, .indexS 1 (.tmp 45) (.tmp 46)⟩, ⟨none, none, .store 1 (.tmp 49) (.tmp 48)⟩])
        (.seq (.block 2 (.loop true [1, 6, 7, 8, 9, 10] (.seq (.seq (.ops [⟨(some 50), none, .move (.tmp 8)⟩, ⟨(some 51), none, .move (.tmp 10)⟩, ⟨(some 52), none, .indexS 1 (.tmp 50) (.tmp 51)⟩, ⟨(some 53), none, .load 1 false (.tmp 52)⟩, ⟨(some 54), none, .move (.tmp 7)⟩, ⟨(some 55), none, .bin .lss none (.tmp 53) (.tmp 54)⟩, ⟨(some 56), none, .move (.tmp 55)⟩, ⟨(some 57), (some (56, true)), .move (.tmp 6)⟩, ⟨(some 58), (some (56, true)), .move (.tmp 10)⟩, ⟨(some 59), (some (56, true)), .move (.tmp 8)⟩, ⟨(some 60), (some (56, true)), .move (.tmp 10)⟩, ⟨(some 61), (some (56, true)), .indexS 1 (.tmp 59) (.tmp 60)⟩, ⟨(some 62), (some (56, true)), .load 1 false (.tmp 61)⟩, ⟨(some 63), (some (56, true)), .bin .add none (.tmp 62) (.const (.int .i64 1))⟩, ⟨(some 64), (some (56, true)), .call true 76 [(.tmp 57), (.tmp 58), (.tmp 63)]⟩, ⟨(some 65), (some (56, true)), .fieldAddr 1 (.tmp 1)⟩, ⟨(some 66), (some (56, true)), .load 1 false (.tmp 65)⟩, ⟨(some 67), (some (56, true)), .bin .leq none (.tmp 64) (.tmp 66)⟩, ⟨(some 68), none, .pick (.tmp 56) (.tmp 67) (.const (.bool false))⟩])
            (.cond (.tmp 68) .skip
            (.exit 2)))
            (.block 3 (.ops [⟨(some 69), none, .move (.tmp 8)⟩, ⟨(some 70), none, .move (.tmp 10)⟩, ⟨(some 71), none, .indexS 1 (.tmp 69) (.tmp 70)⟩, ⟨(some 72), none, .load 1 false (.tmp 71)⟩, ⟨(some 73), none, .bin .add none (.tmp 72) (.const (.int .i64 1))⟩, ⟨(some 74), none, .indexS 1 (.tmp 69) (.tmp 70)⟩, ⟨none, none, .store 1 (.tmp 74) (.tmp 73)⟩])))))
        (.seq (.ops [⟨(some 75), none, .move (.tmp 8)⟩, ⟨(some 76), none, .move (.tmp 10)⟩, ⟨(some 77), none, .indexS 1 (.tmp 75) (.tmp 76)⟩, ⟨(some 78), none, .load 1 false (.tmp 77)⟩, ⟨(some 79), none, .move (.tmp 7)⟩, ⟨(some 80), none, .bin .lss none (.tmp 78) (.tmp 79)⟩])
        (.cond (.tmp 80) (.ops [⟨(some 81), none, .move (.tmp 9)⟩, ⟨(some 82), none, .move (.tmp 10)⟩, ⟨(some 83), none, .move (.tmp 9)⟩, ⟨(some 84), none, .move (.tmp 10)⟩, ⟨(some 85), none, .indexS 1 (.tmp 83) (.tmp 84)⟩, ⟨(some 86), none, .load 1 false (.tmp 85)⟩, ⟨(some 87), none, .move (.tmp 9)⟩, ⟨(some 88), none, .move (.tmp 8)⟩, ⟨(some 89), none, .move (.tmp 10)⟩, ⟨(some 90), none, .indexS 1 (.tmp 88) (.tmp 89)⟩, ⟨(some 91), none, .load 1 false (.tmp 90)⟩, ⟨(some 92), none, .indexS 1 (.tmp 87) (.tmp 91)⟩, ⟨(some 93), none, .load 1 false (.tmp 92)⟩, ⟨(some 94), none, .bin .add none (.const (.int .i64 1)) (.tmp 93)⟩, ⟨(some 95), none, .max (.tmp 86) (.tmp 94)⟩, ⟨(some 96), none, .indexS 1 (.tmp 81) (.tmp 82)⟩, ⟨none, none, .store 1 (.tmp 96) (.tmp 95)⟩])
        .skip))))))
      (.ops [⟨(some 35), none, .move (.tmp 10)⟩, ⟨(some 36), none, .bin .sub none (.tmp 35) (.const (.int .i64 1))⟩, ⟨(some 10), none, .move (.tmp 36)⟩]))))))
  (.seq (.ops [⟨(some 11), none, .move (.const (.slice none 0 0))⟩])
  (.seq (.seq (.ops [⟨(some 12), none, .move (.const (.int .i64 0))⟩])
  (.block 4 (.loop true [7, 8, 9, 11, 12] (.seq (.seq (.ops [⟨(some 97), none, .move (.tmp 9)⟩, ⟨(some 98), none, .move (.tmp 12)⟩, ⟨(some 99), none, .indexS 1 (.tmp 97) (.tmp 98)⟩, ⟨(some 100), none, .load 1 false (.tmp 99)⟩, ⟨(some 101), none, .bin .gtr none (.tmp 100) (.const (.int .i64 0))⟩])
      (.cond (.tmp 101) .skip
      (.exit 4)))
      (.block 5 (.seq (.seq (.ops [⟨(some 102), none, .move (.tmp 8)⟩, ⟨(some 103), none, .move (.tmp 12)⟩, ⟨(some 104), none, .indexS 1 (.tmp 102) (.tmp 103)⟩, ⟨(some 105), none, .load 1 false (.tmp 104)⟩, ⟨(some 106), none, .move (.tmp 7)⟩, ⟨(some 107), none, .bin .eql none (.tmp 105) (.tmp 106)⟩, ⟨(some 108), none, .move (.tmp 107)⟩, ⟨(some 109), (some (108, false)), .move (.tmp 9)⟩, ⟨(some 110), (some (108, false)), .move (.tmp 8)⟩, ⟨(some 111), (some (108, false)), .move (.tmp 12)⟩, ⟨(some 112), (some (108, false)), .indexS 1 (.tmp 110) (.tmp 111)⟩, ⟨(some 113), (some (108, false)), .load 1 false (.tmp 112)⟩, ⟨(some 114), (some (108, false)), .indexS 1 (.tmp 109) (.tmp 113)⟩, ⟨(some 115), (some (108, false)), .load 1 false (.tmp 114)⟩, ⟨(some 116), (some (108, false)), .bin .add none (.const (.int .i64 1)) (.tmp 115)⟩, ⟨(some 117), (some (108, false)), .move (.tmp 9)⟩, ⟨(some 118), (some (108, false)), .move (.tmp 12)⟩, ⟨(some 119), (some (108, false)), .indexS 1 (.tmp 117) (.tmp 118)⟩, ⟨(some 120), (some (108, false)), .load 1 false (.tmp 119)⟩, ⟨(some 121), (some (108, false)), .bin .lss none (.tmp 116) (.tmp 120)⟩, ⟨(some 122), none, .pick (.tmp 108) (.const (.bool true)) (.tmp 121)⟩])
        (.cond (.tmp 122) (.seq (.ops [⟨(some 123), none, .move (.tmp 12)⟩, ⟨(some 124), none, .bin .add none (.tmp 123) (.const (.int .i64 1))⟩, ⟨(some 12), none, .move (.tmp 124)⟩])
          (.exit 5))
        .skip))
        (.seq (.ops [⟨(some 125), none, .move (.tmp 11)⟩, ⟨(some 126), none, .move (.tmp 12)⟩, ⟨(some 127), none, .move (.tmp 8)⟩, ⟨(some 128), none, .move (.tmp 12)⟩, ⟨(some 129), none, .indexS 1 (.tmp 127) (.tmp 128)⟩, ⟨(some 130), none, .load 1 false (.tmp 129)⟩, ⟨(some 131), none, .build [(.v (.int .i64 0)), (.v (.int .i64 0))] [(0, 1, (.tmp 126)), (1, 1, (.tmp 130))]⟩, ⟨(some 132), none, .lit 2 true (.agg [(.v (.int .i64 0)), (.v (.int .i64 0))]) 1 [(0, (.tmp 131))]⟩, ⟨(some 133), none, .append 2 true (.tmp 125) (.tmp 132)⟩, ⟨(some 11), none, .move (.tmp 133)⟩])
        (.ops [⟨(some 134), none, .move (.tmp 8)⟩, ⟨(some 135), none, .move (.tmp 12)⟩, ⟨(some 136), none, .indexS 1 (.tmp 134) (.tmp 135)⟩, ⟨(some 137), none, .load 1 false (.tmp 136)⟩, ⟨(some 12), none, .move (.tmp 137)⟩]))))))))
  (.seq (.seq (.ops [⟨(some 138), none, .move (.tmp 11)⟩, ⟨(some 139), none, .bin .eql (some 0) (.tmp 138) (.const (.slice none 0 0))⟩])
  (.cond (.tmp 139) (.seq (.ops [⟨(some 2), none, .move (.const (.slice none 0 0))⟩, ⟨(some 3), none, .move (.const (.int .i64 13))⟩])
    .ret)
  .skip))
  (.seq (.ops [⟨(some 140), none, .move (.tmp 11)⟩, ⟨(some 2), none, .move (.tmp 140)⟩, ⟨(some 3), none, .move (.const (.int .i64 0))⟩])
  .ret))))))))), [(2, none), (3, none)]⟩
/-- headword/headwordref10.Why -/
def ir37 : IF := ⟨(.seq (.ops [⟨(some 1), none, .box (.tmp 0)⟩, ⟨(some 2), none, .move (.const (.slice none 0 0))⟩, ⟨(some 3), none, .move (.const (.int .i64 0))⟩])
  (.seq (.ops [⟨(some 8), none, .load 3 true (.tmp 1)⟩, ⟨(some 9), none, .call true 32 [(.tmp 8)]⟩, ⟨(some 7), none, .move (.tmp 9)⟩, ⟨(some 10), none, .extract 0 (.tmp 7)⟩, ⟨(some 11), none, .extract 1 (.tmp 7)⟩, ⟨(some 4), none, .move (.tmp 10)⟩, ⟨(some 5), none, .move (.tmp 11)⟩])
  (.seq (.seq (.ops [⟨(some 12), none, .move (.tmp 5)⟩, ⟨(some 13), none, .bin .neq none (.tmp 12) (.const (.int .i64 0))⟩])
  (.cond (.tmp 13) (.seq (.ops [⟨(some 14), none, .move (.tmp 5)⟩, ⟨(some 2), none, .move (.const (.slice none 0 0))⟩, ⟨(some 3), none, .move (.tmp 14)⟩])
    .ret)
  .skip))
  (.seq (.ops [⟨(some 15), none, .load 3 true (.tmp 1)⟩, ⟨(some 16), none, .call true 85 [(.tmp 15), (.const (.int .i64 0))]⟩, ⟨(some 6), none, .move (.tmp 16)⟩])
  (.seq (.seq (.ops [⟨(some 17), none, .move (.tmp 6)⟩, ⟨(some 18), none, .len (.tmp 17)⟩, ⟨(some 19), none, .bin .eql none (.tmp 18) (.const (.int .i64 0))⟩])
  (.cond (.tmp 19) (.seq (.ops [⟨(some 2), none, .move (.const (.slice none 0 0))⟩, ⟨(some 3), none, .move (.const (.int .i64 13))⟩])
    .ret)
  .skip))
  (.seq (.ops [⟨(some 20), none, .move (.tmp 6)⟩, ⟨(some 2), none, .move (.tmp 20)⟩, ⟨(some 3), none, .move (.const (.int .i64 0))⟩])
  .ret)))))), [(2, none), (3, none)]⟩
/-- headword/headwordlaw10.rows -/
def ir38 : IF := ⟨(.seq (.ops [⟨(some 4), none, .move (.const (.bool false))⟩])
  (.seq (.seq (.ops [⟨(some 6), none, .move (.tmp 0)⟩, ⟨(some 7), none, .len (.tmp 6)⟩, ⟨(some 8), none, .move (.tmp 1)⟩, ⟨(some 9), none, .len (.tmp 8)⟩, ⟨(some 10), none, .bin .neq none (.tmp 7) (.tmp 9)⟩])
  (.cond (.tmp 10) (.seq (.ops [⟨(some 4), none, .move (.const (.bool false))⟩])
    .ret)
  .skip))
  (.seq (.seq (.ops [⟨(some 5), none, .move (.const (.int .i64 0))⟩])
  (.block 0 (.loop true [0, 1, 5] (.seq (.seq (.ops [⟨(some 11), none, .move (.tmp 5)⟩, ⟨(some 12), none, .move (.tmp 0)⟩, ⟨(some 13), none, .len (.tmp 12)⟩, ⟨(some 14), none, .bin .lss none (.tmp 11) (.tmp 13)⟩])
      (.cond (.tmp 14) .skip
      (.exit 0)))
      (.seq (.block 1 (.seq (.ops [⟨(some 17), none, .move (.tmp 0)⟩, ⟨(some 18), none, .move (.tmp 5)⟩, ⟨(some 19), none, .indexS 2 (.tmp 17) (.tmp 18)⟩, ⟨(some 20), none, .load 2 true (.tmp 19)⟩, ⟨(some 21), none, .move (.tmp 1)⟩, ⟨(some 22), none, .move (.tmp 5)⟩, ⟨(some 23), none, .indexS 2 (.tmp 21) (.tmp 22)⟩, ⟨(some 24), none, .load 2 true (.tmp 23)⟩, ⟨(some 25), none, .bin .neq (some 4) (.tmp 20) (.tmp 24)⟩])
        (.cond (.tmp 25) (.seq (.ops [⟨(some 4), none, .move (.const (.bool false))⟩])
          .ret)
        .skip)))
      (.ops [⟨(some 15), none, .move (.tmp 5)⟩, ⟨(some 16), none, .bin .add none (.tmp 15) (.const (.int .i64 1))⟩, ⟨(some 5), none, .move (.tmp 16)⟩]))))))
  (.seq (.ops [⟨(some 4), none, .move (.const (.bool true))⟩])
  .ret)))), [(4, none)]⟩
/-- headword/volume.Proves -/
def ir39 : IF := ⟨(.seq (.ops [⟨(some 3), none, .box (.tmp 0)⟩, ⟨(some 6), none, .move (.const (.int .i64 0))⟩])
  (.seq (.ops [⟨(some 12), none, .load 3 true (.tmp 3)⟩, ⟨(some 13), none, .call true 25 [(.tmp 12)]⟩, ⟨(some 7), none, .move (.tmp 13)⟩])
  (.seq (.block 0 (.seq (.ops [⟨(some 15), none, .move (.tmp 7)⟩, ⟨(some 16), none, .bin .neq none (.tmp 15) (.const (.int .i64 0))⟩, ⟨(some 14), none, .move (.tmp 16)⟩])
    (.cond (.tmp 14) (.seq (.ops [⟨(some 17), none, .move (.tmp 7)⟩, ⟨(some 6), none, .move (.tmp 17)⟩])
      .ret)
    (.seq (.ops [⟨(some 19), none, .move (.tmp 1)⟩, ⟨(some 20), none, .bin .lss none (.tmp 19) (.const (.int .i64 1))⟩, ⟨(some 18), none, .move (.tmp 20)⟩])
      (.cond (.tmp 18) (.seq (.ops [⟨(some 6), none, .move (.const (.int .i64 1))⟩])
        .ret)
      .skip)))))
  (.seq (.ops [⟨(some 21), none, .load 3 true (.tmp 3)⟩, ⟨(some 22), none, .call true 75 [(.tmp 21), (.func 68)]⟩, ⟨(some 8), none, .move (.tmp 22)⟩])
  (.seq (.ops [⟨(some 9), none, .move (.const (.int .i64 0))⟩])
  (.seq (.seq (.ops [⟨(some 23), none, .move (.tmp 2)⟩, ⟨(some 24), none, .len (.tmp 23)⟩, ⟨(some 25), none, .move (.const (.int .i64 0))⟩])
  (.block 1 (.loop true [1, 2, 3, 8, 9, 23, 24, 25] (.seq (.ops [⟨(some 26), none, .bin .lss none (.tmp 25) (.tmp 24)⟩])
      (.seq (.cond (.tmp 26) .skip
      (.exit 1))
      (.seq (.block 2 (.seq (.ops [⟨(some 27), none, .indexS 2 (.tmp 23) (.tmp 25)⟩, ⟨(some 28), none, .load 2 true (.tmp 27)⟩, ⟨(some 11), none, .alloc [(.v (.int .i64 0)), (.v (.int .i64 0))]⟩, ⟨none, none, .store 2 (.tmp 11) (.tmp 28)⟩])
        (.seq (.block 3 (.seq (.ops [⟨(some 30), none, .indexA 2 1 (.tmp 11) (.const (.int .i64 0))⟩, ⟨(some 31), none, .load 1 false (.tmp 30)⟩, ⟨(some 32), none, .indexA 2 1 (.tmp 11) (.const (.int .i64 1))⟩, ⟨(some 33), none, .load 1 false (.tmp 32)⟩, ⟨(some 34), none, .min (.tmp 31) (.tmp 33)⟩, ⟨(some 35), none, .bin .lss none (.tmp 34) (.const (.int .i64 0))⟩, ⟨(some 36), none, .move (.tmp 35)⟩, ⟨(some 37), (some (36, false)), .indexA 2 1 (.tmp 11) (.const (.int .i64 0))⟩, ⟨(some 38), (some (36, false)), .load 1 false (.tmp 37)⟩, ⟨(some 39), (some (36, false)), .indexA 2 1 (.tmp 11) (.const (.int .i64 1))⟩, ⟨(some 40), (some (36, false)), .load 1 false (.tmp 39)⟩, ⟨(some 41), (some (36, false)), .max (.tmp 38) (.tmp 40)⟩, ⟨(some 42), (some (36, false)), .fieldAddr 0 (.tmp 3)⟩, ⟨(some 43), (some (36, false)), .load 1 false (.tmp 42)⟩, ⟨(some 44), (some (36, false)), .len (.tmp 43)⟩, ⟨(some 45), (some (36, false)), .bin .geq none (.tmp 41) (.tmp 44)⟩, ⟨(some 46), none, .pick (.tmp 36) (.const (.bool true)) (.tmp 45)⟩, ⟨(some 29), none, .move (.tmp 46)⟩])
          (.cond (.tmp 29) (.seq (.ops [⟨(some 6), none, .move (.const (.int .i64 2))⟩])
            .ret)
          (.seq (.ops [⟨(some 48), none, .indexA 2 1 (.tmp 11) (.const (.int .i64 0))⟩, ⟨(some 49), none, .load 1 false (.tmp 48)⟩, ⟨(some 50), none, .indexA 2 1 (.tmp 11) (.const (.int .i64 1))⟩, ⟨(some 51), none, .load 1 false (.tmp 50)⟩, ⟨(some 52), none, .bin .geq none (.tmp 49) (.tmp 51)⟩, ⟨(some 53), none, .move (.tmp 52)⟩, ⟨(some 54), (some (53, false)), .indexA 2 1 (.tmp 11) (.const (.int .i64 0))⟩, ⟨(some 55), (some (53, false)), .load 1 false (.tmp 54)⟩, ⟨(some 56), (some (53, false)), .move (.tmp 9)⟩, ⟨(some 57), (some (53, false)), .bin .lss none (.tmp 55) (.tmp 56)⟩, ⟨(some 58), none, .pick (.tmp 53) (.const (.bool true)) (.tmp 57)⟩, ⟨(some 47), none, .move (.tmp 58)⟩])
            (.cond (.tmp 47) (.seq (.ops [⟨(some 6), none, .move (.const (.int .i64 7))⟩])
              .ret)
            (.seq (.ops [⟨(some 60), none, .move (.tmp 8)⟩, ⟨(some 61), none, .indexA 2 1 (.tmp 11) (.const (.int .i64 0))⟩, ⟨(some 62), none, .load 1 false (.tmp 61)⟩, ⟨(some 63), none, .indexA 2 1 (.tmp 11) (.const (.int .i64 1))⟩, ⟨(some 64), none, .load 1 false (.tmp 63)⟩, ⟨(some 65), none, .bin .add none (.tmp 64) (.const (.int .i64 1))⟩, ⟨(some 66), none, .call true 76 [(.tmp 60), (.tmp 62), (.tmp 65)]⟩, ⟨(some 67), none, .fieldAddr 1 (.tmp 3)⟩, ⟨(some 68), none, .load 1 false (.tmp 67)⟩, ⟨(some 69), none, .bin .leq none (.tmp 66) (.tmp 68)⟩, ⟨(some 59), none, .move (.tmp 69)⟩])
              (.cond (.tmp 59) (.seq (.ops [⟨(some 6), none, .move (.const (.int .i64 14))⟩])
                .ret)
              .skip)))))))
        (.ops [⟨(some 70), none, .indexA 2 1 (.tmp 11) (.const (.int .i64 1))⟩, ⟨(some 71), none, .load 1 false (.tmp 70)⟩, ⟨(some 9), none, .move (.tmp 71)⟩]))))
      (.ops [⟨(some 72), none, .bin .add none (.tmp 25) (.const (.int .i64 1))⟩, ⟨(some 25), none, .move (.tmp 72)⟩])))))))
  (.seq (.seq (.ops [⟨(some 73), none, .move (.tmp 2)⟩, ⟨(some 74), none, .len (.tmp 73)⟩, ⟨(some 75), none, .move (.tmp 1)⟩, ⟨(some 76), none, .bin .sub none (.tmp 75) (.const (.int .i64 1))⟩, ⟨(some 77), none, .bin .lss none (.tmp 74) (.tmp 76)⟩])
  (.cond (.tmp 77) (.seq (.ops [⟨(some 6), none, .move (.const (.int .i64 14))⟩])
    .ret)
  .skip))
  (.seq (.ops [⟨(some 6), none, .move (.const (.int .i64 0))⟩])
  .ret)))))))), [(6, none)]⟩
/-- headword/headwordref10.Proves -/
def ir40 : IF := ⟨(.seq (.ops [⟨(some 3), none, .box (.tmp 0)⟩, ⟨(some 6), none, .move (.const (.int .i64 0))⟩])
  (.seq (.ops [⟨(some 11), none, .load 3 true (.tmp 3)⟩, ⟨(some 12), none, .call true 26 [(.tmp 11)]⟩, ⟨(some 7), none, .move (.tmp 12)⟩])
  (.seq (.seq (.ops [⟨(some 13), none, .move (.tmp 7)⟩, ⟨(some 14), none, .bin .eql none (.tmp 13) (.const (.int .i64 0))⟩, ⟨(some 15), none, .move (.tmp 14)⟩, ⟨(some 16), (some (15, true)), .move (.tmp 1)⟩, ⟨(some 17), (some (15, true)), .bin .lss none (.tmp 16) (.const (.int .i64 1))⟩, ⟨(some 18), none, .pick (.tmp 15) (.tmp 17) (.const (.bool false))⟩])
  (.cond (.tmp 18) (.ops [⟨(some 7), none, .move (.const (.int .i64 1))⟩])
  .skip))
  (.seq (.ops [⟨(some 19), none, .fieldAddr 0 (.tmp 3)⟩, ⟨(some 20), none, .load 1 false (.tmp 19)⟩, ⟨(some 21), none, .len (.tmp 20)⟩, ⟨(some 8), none, .move (.tmp 21)⟩])
  (.seq (.seq (.ops [⟨(some 9), none, .move (.const (.int .i64 0))⟩])
  (.block 0 (.loop true [1, 2, 3, 7, 8, 9] (.seq (.seq (.ops [⟨(some 22), none, .move (.tmp 9)⟩, ⟨(some 23), none, .move (.tmp 2)⟩, ⟨(some 24), none, .len (.tmp 23)⟩, ⟨(some 25), none, .bin .lss none (.tmp 22) (.tmp 24)⟩, ⟨(some 26), none, .move (.tmp 25)⟩, ⟨(some 27), (some (26, true)), .move (.tmp 7)⟩, ⟨(some 28), (some (26, true)), .bin .eql none (.tmp 27) (.const (.int .i64 0))⟩, ⟨(some 29), none, .pick (.tmp 26) (.tmp 28) (.const (.bool false))⟩])
      (.cond (.tmp 29) .skip
      (.exit 0)))
      (.seq (.block 1 (.seq (.ops [⟨(some 32), none, .move (.tmp 2)⟩, ⟨(some 33), none, .move (.tmp 9)⟩, ⟨(some 34), none, .indexS 2 (.tmp 32) (.tmp 33)⟩, ⟨(some 35), none, .load 2 true (.tmp 34)⟩, ⟨(some 10), none, .alloc [(.v (.int .i64 0)), (.v (.int .i64 0))]⟩, ⟨none, none, .store 2 (.tmp 10) (.tmp 35)⟩])
        (.seq (.ops [⟨(some 36), none, .indexA 2 1 (.tmp 10) (.const (.int .i64 0))⟩, ⟨(some 37), none, .load 1 false (.tmp 36)⟩, ⟨(some 38), none, .move (.tmp 8)⟩, ⟨(some 39), none, .bin .sub none (.tmp 38) (.const (.int .i64 1))⟩, ⟨(some 40), none, .call true 77 [(.tmp 37), (.const (.int .i64 0)), (.tmp 39)]⟩, ⟨(some 41), none, .not (.tmp 40)⟩, ⟨(some 42), none, .move (.tmp 41)⟩, ⟨(some 43), (some (42, false)), .indexA 2 1 (.tmp 10) (.const (.int .i64 1))⟩, ⟨(some 44), (some (42, false)), .load 1 false (.tmp 43)⟩, ⟨(some 45), (some (42, false)), .move (.tmp 8)⟩, ⟨(some 46), (some (42, false)), .bin .sub none (.tmp 45) (.const (.int .i64 1))⟩, ⟨(some 47), (some (42, false)), .call true 77 [(.tmp 44), (.const (.int .i64 0)), (.tmp 46)]⟩, ⟨(some 48), (some (42, false)), .not (.tmp 47)⟩, ⟨(some 49), none, .pick (.tmp 42) (.const (.bool true)) (.tmp 48)⟩])
        (.cond (.tmp 49) (.ops [⟨(some 7), none, .move (.const (.int .i64 2))⟩])
        (.seq (.ops [⟨(some 50), none, .indexA 2 1 (.tmp 10) (.const (.int .i64 0))⟩, ⟨(some 51), none, .load 1 false (.tmp 50)⟩, ⟨(some 52), none, .indexA 2 1 (.tmp 10) (.const (.int .i64 1))⟩, ⟨(some 53), none, .load 1 false (.tmp 52)⟩, ⟨(some 54), none, .bin .geq none (.tmp 51) (.tmp 53)⟩, ⟨(some 55), none, .move (.tmp 54)⟩, ⟨(some 56), (some (55, false)), .move (.tmp 9)⟩, ⟨(some 57), (some (55, false)), .bin .gtr none (.tmp 56) (.const (.int .i64 0))⟩, ⟨(some 58), (some (55, false)), .move (.tmp 57)⟩, ⟨(some 59), (some (58, true)), .indexA 2 1 (.tmp 10) (.const (.int .i64 0))⟩, ⟨(some 60), (some (58, true)), .load 1 false (.tmp 59)⟩, ⟨(some 61), (some (58, true)), .move (.tmp 2)⟩, ⟨(some 62), (some (58, true)), .move (.tmp 9)⟩, ⟨(some 63), (some (58, true)), .bin .sub none (.tmp 62) (.const (.int .i64 1))⟩, ⟨(some 64), (some (58, true)), .indexS 2 (.tmp 61) (.tmp 63)⟩, ⟨(some 65), (some (58, true)), .indexA 2 1 (.tmp 64) (.const (.int .i64 1))⟩, ⟨(some 66), (some (58, true)), .load 1 false (.tmp 65)⟩, ⟨(some 67), (some (58, true)), .bin .lss none (.tmp 60) (.tmp 66)⟩, ⟨(some 68), (some (55, false)), .pick (.tmp 58) (.tmp 67) (.const (.bool false))⟩, ⟨(some 69), none, .pick (.tmp 55) (.const (.bool true)) (.tmp 68)⟩])
          (.cond (.tmp 69) (.ops [⟨(some 7), none, .move (.const (.int .i64 7))⟩])
          (.seq (.ops [⟨(some 70), none, .load 3 true (.tmp 3)⟩, ⟨(some 71), none, .load 2 true (.tmp 10)⟩, ⟨(some 72), none, .call true 86 [(.tmp 70), (.tmp 71)]⟩, ⟨(some 73), none, .not (.tmp 72)⟩])
            (.cond (.tmp 73) (.ops [⟨(some 7), none, .move (.const (.int .i64 14))⟩])
            .skip))))))))
      (.ops [⟨(some 30), none, .move (.tmp 9)⟩, ⟨(some 31), none, .bin .add none (.tmp 30) (.const (.int .i64 1))⟩, ⟨(some 9), none, .move (.tmp 31)⟩]))))))
  (.seq (.seq (.ops [⟨(some 74), none, .move (.tmp 7)⟩, ⟨(some 75), none, .bin .eql none (.tmp 74) (.const (.int .i64 0))⟩, ⟨(some 76), none, .move (.tmp 75)⟩, ⟨(some 77), (some (76, true)), .move (.tmp 2)⟩, ⟨(some 78), (some (76, true)), .len (.tmp 77)⟩, ⟨(some 79), (some (76, true)), .move (.tmp 1)⟩, ⟨(some 80), (some (76, true)), .bin .sub none (.tmp 79) (.const (.int .i64 1))⟩, ⟨(some 81), (some (76, true)), .bin .lss none (.tmp 78) (.tmp 80)⟩, ⟨(some 82), none, .pick (.tmp 76) (.tmp 81) (.const (.bool false))⟩])
  (.cond (.tmp 82) (.ops [⟨(some 7), none, .move (.const (.int .i64 14))⟩])
  .skip))
  (.seq (.ops [⟨(some 83), none, .move (.tmp 7)⟩, ⟨(some 6), none, .move (.tmp 83)⟩])
  .ret))))))), [(6, none)]⟩
/-- headword/volume.Cut -/
def ir41 : IF := ⟨(.seq (.ops [⟨(some 1), none, .box (.tmp 0)⟩, ⟨(some 2), none, .move (.const (.slice none 0 0))⟩, ⟨(some 3), none, .move (.const (.int .i64 0))⟩])
  (.seq (.seq (.ops [⟨(some 10), none, .load 3 true (.tmp 1)⟩, ⟨(some 11), none, .call true 25 [(.tmp 10)]⟩, ⟨(some 4), none, .move (.tmp 11)⟩])
  (.seq (.ops [⟨(some 12), none, .move (.tmp 4)⟩, ⟨(some 13), none, .bin .neq none (.tmp 12) (.const (.int .i64 0))⟩])
  (.cond (.tmp 13) (.seq (.ops [⟨(some 14), none, .move (.tmp 4)⟩, ⟨(some 2), none, .move (.const (.slice none 0 0))⟩, ⟨(some 3), none, .move (.tmp 14)⟩])
    .ret)
  .skip)))
  (.seq (.ops [⟨(some 15), none, .load 3 true (.tmp 1)⟩, ⟨(some 16), none, .call true 87 [(.tmp 15)]⟩, ⟨(some 5), none, .move (.tmp 16)⟩])
  (.seq (.ops [⟨(some 6), none, .move (.const (.slice none 0 0))⟩])
  (.seq (.seq (.ops [⟨(some 7), none, .move (.const (.int .i64 0))⟩])
  (.block 0 (.loop true [1, 5, 6, 7] (.seq (.seq (.ops [⟨(some 17), none, .move (.tmp 7)⟩, ⟨(some 18), none, .fieldAddr 0 (.tmp 1)⟩, ⟨(some 19), none, .load 1 false (.tmp 18)⟩, ⟨(some 20), none, .len (.tmp 19)⟩, ⟨(some 21), none, .bin .lss none (.tmp 17) (.tmp 20)⟩])
      (.cond (.tmp 21) .skip
      (.exit 0)))
      (.block 1 (.seq (.ops [⟨(some 23), none, .move (.tmp 5)⟩, ⟨(some 24), none, .move (.tmp 7)⟩, ⟨(some 25), none, .indexS 1 (.tmp 23) (.tmp 24)⟩, ⟨(some 26), none, .load 1 false (.tmp 25)⟩, ⟨(some 27), none, .assert 118 (.agg [(.v (.int .i64 0)), (.v (.int .i64 0)), (.v (.int .i64 0))]) true (.tmp 26)⟩, ⟨(some 22), none, .move (.tmp 27)⟩, ⟨(some 28), none, .extract 0 (.tmp 22)⟩, ⟨(some 29), none, .extract 1 (.tmp 22)⟩, ⟨(some 8), none, .alloc [(.v (.int .i64 0)), (.v (.int .i64 0)), (.v (.int .i64 0))]⟩, ⟨none, none, .store 3 (.tmp 8) (.tmp 28)⟩, ⟨(some 9), none, .move (.tmp 29)⟩])
        (.seq (.seq (.ops [⟨(some 30), none, .move (.tmp 9)⟩, ⟨(some 31), none, .not (.tmp 30)⟩])
        (.cond (.tmp 31) (.seq (.ops [⟨(some 2), none, .move (.const (.slice none 0 0))⟩, ⟨(some 3), none, .move (.const (.int .i64 12))⟩])
          .ret)
        .skip))
        (.seq (.ops [⟨(some 32), none, .fieldAddr 1 (.tmp 8)⟩, ⟨(some 33), none, .load 1 false (.tmp 32)⟩, ⟨(some 7), none, .move (.tmp 33)⟩])
        (.ops [⟨(some 34), none, .move (.tmp 6)⟩, ⟨(some 35), none, .move (.tmp 7)⟩, ⟨(some 36), none, .lit 1 false (.v (.int .i64 0)) 1 [(0, (.tmp 35))]⟩, ⟨(some 37), none, .append 1 true (.tmp 34) (.tmp 36)⟩, ⟨(some 6), none, .move (.tmp 37)⟩])))))))))
  (.seq (.ops [⟨(some 38), none, .move (.tmp 6)⟩, ⟨(some 2), none, .move (.tmp 38)⟩, ⟨(some 3), none, .move (.const (.int .i64 0))⟩])
  .ret)))))), [(2, none), (3, none)]⟩
/-- headword/headwordref10.Cut -/
def ir42 : IF := ⟨(.seq (.ops [⟨(some 1), none, .box (.tmp 0)⟩, ⟨(some 2), none, .move (.const (.slice none 0 0))⟩, ⟨(some 3), none, .move (.const (.int .i64 0))⟩])
  (.seq (.ops [⟨(some 8), none, .load 3 true (.tmp 1)⟩, ⟨(some 9), none, .call true 26 [(.tmp 8)]⟩, ⟨(some 4), none, .move (.tmp 9)⟩])
  (.seq (.seq (.ops [⟨(some 10), none, .move (.tmp 4)⟩, ⟨(some 11), none, .bin .neq none (.tmp 10) (.const (.int .i64 0))⟩])
  (.cond (.tmp 11) (.seq (.ops [⟨(some 12), none, .move (.tmp 4)⟩, ⟨(some 2), none, .move (.const (.slice none 0 0))⟩, ⟨(some 3), none, .move (.tmp 12)⟩])
    .ret)
  .skip))
  (.seq (.ops [⟨(some 13), none, .load 3 true (.tmp 1)⟩, ⟨(some 14), none, .call true 83 [(.tmp 13), (.const (.bool true))]⟩, ⟨(some 5), none, .move (.tmp 14)⟩])
  (.seq (.seq (.ops [⟨(some 15), none, .move (.tmp 5)⟩, ⟨(some 16), none, .len (.tmp 15)⟩, ⟨(some 17), none, .bin .eql none (.tmp 16) (.const (.int .i64 0))⟩])
  (.cond (.tmp 17) (.seq (.ops [⟨(some 2), none, .move (.const (.slice none 0 0))⟩, ⟨(some 3), none, .move (.const (.int .i64 12))⟩])
    .ret)
  .skip))
  (.seq (.ops [⟨(some 18), none, .move (.tmp 5)⟩, ⟨(some 19), none, .indexS 1 (.tmp 18) (.const (.int .i64 0))⟩, ⟨(some 20), none, .load 1 false (.tmp 19)⟩, ⟨(some 6), none, .move (.tmp 20)⟩])
  (.seq (.seq (.ops [⟨(some 7), none, .move (.const (.int .i64 1))⟩])
  (.block 0 (.loop true [5, 6, 7] (.seq (.seq (.ops [⟨(some 21), none, .move (.tmp 7)⟩, ⟨(some 22), none, .move (.tmp 5)⟩, ⟨(some 23), none, .len (.tmp 22)⟩, ⟨(some 24), none, .bin .lss none (.tmp 21) (.tmp 23)⟩])
      (.cond (.tmp 24) .skip
      (.exit 0)))
      (.seq (.block 1 (.seq (.ops [⟨(some 27), none, .move (.tmp 5)⟩, ⟨(some 28), none, .move (.tmp 7)⟩, ⟨(some 29), none, .indexS 1 (.tmp 27) (.tmp 28)⟩, ⟨(some 30), none, .load 1 false (.tmp 29)⟩, ⟨(some 31), none, .len (.tmp 30)⟩, ⟨(some 32), none, .move (.tmp 6)⟩, ⟨(some 33), none, .len (.tmp 32)⟩, ⟨(some 34), none, .bin .lss none (.tmp 31) (.tmp 33)⟩])
        (.cond (.tmp 34) (.ops [⟨(some 35), none, .move (.tmp 5)⟩, ⟨(some 36), none, .move (.tmp 7)⟩, ⟨(some 37), none, .indexS 1 (.tmp 35) (.tmp 36)⟩, ⟨(some 38), none, .load 1 false (.tmp 37)⟩, ⟨(some 6), none, .move (.tmp 38)⟩])
        .skip)))
      (.ops [⟨(some 25), none, .move (.tmp 7)⟩, ⟨(some 26), none, .bin .add none (.tmp 25) (.const (.int .i64 1))⟩, ⟨(some 7), none, .move (.tmp 26)⟩]))))))
  (.seq (.ops [⟨(some 39), none, .move (.tmp 6)⟩, ⟨(some 2), none, .move (.tmp 39)⟩, ⟨(some 3), none, .move (.const (.int .i64 0))⟩])
  .ret)))))))), [(2, none), (3, none)]⟩
/-- headword/volume.Count -/
def ir43 : IF := ⟨(.seq (.ops [⟨(some 1), none, .box (.tmp 0)⟩, ⟨(some 2), none, .move (.const (.int .i64 0))⟩, ⟨(some 3), none, .move (.const (.int .i64 0))⟩])
  (.seq (.seq (.ops [⟨(some 7), none, .load 3 true (.tmp 1)⟩, ⟨(some 8), none, .call true 25 [(.tmp 7)]⟩, ⟨(some 4), none, .move (.tmp 8)⟩])
  (.seq (.ops [⟨(some 9), none, .move (.tmp 4)⟩, ⟨(some 10), none, .bin .neq none (.tmp 9) (.const (.int .i64 0))⟩])
  (.cond (.tmp 10) (.seq (.ops [⟨(some 11), none, .move (.tmp 4)⟩, ⟨(some 2), none, .move (.const (.int .i64 0))⟩, ⟨(some 3), none, .move (.tmp 11)⟩])
    .ret)
  .skip)))
  (.seq (.ops [⟨(some 13), none, .load 3 true (.tmp 1)⟩, ⟨(some 14), none, .call true 87 [(.tmp 13)]⟩, ⟨(some 15), none, .indexS 1 (.tmp 14) (.const (.int .i64 0))⟩, ⟨(some 16), none, .load 1 false (.tmp 15)⟩, ⟨(some 17), none, .assert 118 (.agg [(.v (.int .i64 0)), (.v (.int .i64 0)), (.v (.int .i64 0))]) true (.tmp 16)⟩, ⟨(some 12), none, .move (.tmp 17)⟩, ⟨(some 18), none, .extract 0 (.tmp 12)⟩, ⟨(some 19), none, .extract 1 (.tmp 12)⟩, ⟨(some 5), none, .alloc [(.v (.int .i64 0)), (.v (.int .i64 0)), (.v (.int .i64 0))]⟩, ⟨none, none, .store 3 (.tmp 5) (.tmp 18)⟩, ⟨(some 6), none, .move (.tmp 19)⟩])
  (.seq (.ops [⟨(some 20), none, .fieldAddr 2 (.tmp 5)⟩, ⟨(some 21), none, .load 1 false (.tmp 20)⟩, ⟨(some 2), none, .move (.tmp 21)⟩, ⟨(some 3), none, .move (.const (.int .i64 0))⟩])
  .ret)))), [(2, none), (3, none)]⟩
/-- headword/headwordref10.Count -/
def ir44 : IF := ⟨(.seq (.ops [⟨(some 1), none, .box (.tmp 0)⟩, ⟨(some 2), none, .move (.const (.int .i64 0))⟩, ⟨(some 3), none, .move (.const (.int .i64 0))⟩])
  (.seq (.ops [⟨(some 5), none, .load 3 true (.tmp 1)⟩, ⟨(some 6), none, .call true 26 [(.tmp 5)]⟩, ⟨(some 4), none, .move (.tmp 6)⟩])
  (.seq (.seq (.ops [⟨(some 7), none, .move (.tmp 4)⟩, ⟨(some 8), none, .bin .neq none (.tmp 7) (.const (.int .i64 0))⟩])
  (.cond (.tmp 8) (.seq (.ops [⟨(some 9), none, .move (.tmp 4)⟩, ⟨(some 2), none, .move (.const (.int .i64 0))⟩, ⟨(some 3), none, .move (.tmp 9)⟩])
    .ret)
  .skip))
  (.seq (.ops [⟨(some 10), none, .load 3 true (.tmp 1)⟩, ⟨(some 11), none, .call true 83 [(.tmp 10), (.const (.bool true))]⟩, ⟨(some 12), none, .len (.tmp 11)⟩, ⟨(some 2), none, .move (.tmp 12)⟩, ⟨(some 3), none, .move (.const (.int .i64 0))⟩])
  .ret)))), [(2, none), (3, none)]⟩
/-- (headword/headwordlaw10.Shelf).made -/
def ir45 : IF := ⟨(.seq (.ops [⟨(some 3), none, .box (.tmp 0)⟩, ⟨(some 6), none, .alloc [(.v (.slice none 0 0)), (.v (.int .i64 0)), (.v (.int .i64 0))]⟩])
  (.seq (.ops [⟨(some 7), none, .alloc [(.v (.slice none 0 0)), (.v (.int .i64 0)), (.v (.int .i64 0))]⟩])
  (.seq (.ops [⟨(some 8), none, .move (.const (.int .i64 1))⟩])
  (.seq (.seq (.ops [⟨(some 12), none, .fieldAddr 0 (.tmp 3)⟩, ⟨(some 13), none, .load 1 false (.tmp 12)⟩, ⟨(some 14), none, .conv .i64 (.tmp 13)⟩, ⟨(some 15), none, .move (.tmp 1)⟩, ⟨(some 16), none, .bin .rem none (.tmp 14) (.tmp 15)⟩, ⟨(some 17), none, .bin .add none (.const (.int .i64 1)) (.tmp 16)⟩, ⟨(some 18), none, .move (.const (.int .i64 0))⟩])
  (.block 0 (.loop true [2, 3, 6, 7, 8, 17, 18] (.seq (.ops [⟨(some 19), none, .bin .lss none (.tmp 18) (.tmp 17)⟩])
      (.seq (.cond (.tmp 19) .skip
      (.exit 0))
      (.seq (.block 1 (.seq (.ops [⟨(some 20), none, .move (.tmp 18)⟩, ⟨(some 9), none, .move (.tmp 20)⟩])
        (.seq (.ops [⟨(some 21), none, .move (.tmp 9)⟩, ⟨(some 22), none, .fieldAddr 3 (.tmp 3)⟩, ⟨(some 23), none, .indexA 12 1 (.tmp 22) (.tmp 21)⟩, ⟨(some 24), none, .load 1 false (.tmp 23)⟩, ⟨(some 25), none, .conv .i64 (.tmp 24)⟩, ⟨(some 26), none, .move (.tmp 2)⟩, ⟨(some 27), none, .bin .rem none (.tmp 25) (.tmp 26)⟩, ⟨(some 28), none, .bin .add none (.const (.int .i64 1)) (.tmp 27)⟩, ⟨(some 10), none, .move (.tmp 28)⟩])
        (.seq (.ops [⟨(some 29), none, .move (.tmp 10)⟩, ⟨(some 30), none, .move (.tmp 10)⟩, ⟨(some 31), none, .move (.tmp 9)⟩, ⟨(some 32), none, .fieldAddr 15 (.tmp 3)⟩, ⟨(some 33), none, .indexA 12 1 (.tmp 32) (.tmp 31)⟩, ⟨(some 34), none, .load 1 false (.tmp 33)⟩, ⟨(some 35), none, .conv .i64 (.tmp 34)⟩, ⟨(some 36), none, .move (.tmp 2)⟩, ⟨(some 37), none, .move (.tmp 10)⟩, ⟨(some 38), none, .bin .sub none (.tmp 36) (.tmp 37)⟩, ⟨(some 39), none, .bin .add none (.tmp 38) (.const (.int .i64 1))⟩, ⟨(some 40), none, .bin .rem none (.tmp 35) (.tmp 39)⟩, ⟨(some 41), none, .bin .add none (.tmp 30) (.tmp 40)⟩, ⟨(some 42), none, .build [(.v (.int .i64 0)), (.v (.int .i64 0))] [(0, 1, (.tmp 29)), (1, 1, (.tmp 41))]⟩, ⟨(some 11), none, .alloc [(.v (.int .i64 0)), (.v (.int .i64 0))]⟩, ⟨none, none, .store 2 (.tmp 11) (.tmp 42)⟩])
        (.seq (.ops [⟨(some 43), none, .fieldAddr 0 (.tmp 7)⟩, ⟨(some 44), none, .load 1 false (.tmp 43)⟩, ⟨(some 45), none, .load 2 true (.tmp 11)⟩, ⟨(some 46), none, .lit 2 true (.agg [(.v (.int .i64 0)), (.v (.int .i64 0))]) 1 [(0, (.tmp 45))]⟩, ⟨(some 47), none, .append 2 true (.tmp 44) (.tmp 46)⟩, ⟨(some 48), none, .fieldAddr 0 (.tmp 7)⟩, ⟨none, none, .store 1 (.tmp 48) (.tmp 47)⟩])
        (.ops [⟨(some 49), none, .move (.tmp 8)⟩, ⟨(some 50), none, .fieldAddr 1 (.tmp 11)⟩, ⟨(some 51), none, .load 1 false (.tmp 50)⟩, ⟨(some 52), none, .max (.tmp 49) (.tmp 51)⟩, ⟨(some 8), none, .move (.tmp 52)⟩]))))))
      (.ops [⟨(some 53), none, .bin .add none (.tmp 18) (.const (.int .i64 1))⟩, ⟨(some 18), none, .move (.tmp 53)⟩])))))))
  (.seq (.ops [⟨(some 54), none, .move (.tmp 8)⟩, ⟨(some 55), none, .fieldAddr 1 (.tmp 3)⟩, ⟨(some 56), none, .load 1 false (.tmp 55)⟩, ⟨(some 57), none, .conv .i64 (.tmp 56)⟩, ⟨(some 58), none, .move (.tmp 2)⟩, ⟨(some 59), none, .bin .mul none (.const (.int .i64 3)) (.tmp 58)⟩, ⟨(some 60), none, .bin .rem none (.tmp 57) (.tmp 59)⟩, ⟨(some 61), none, .bin .add none (.tmp 54) (.tmp 60)⟩, ⟨(some 62), none, .min (.const (.int .i64 100)) (.tmp 61)⟩, ⟨(some 63), none, .fieldAddr 1 (.tmp 7)⟩, ⟨none, none, .store 1 (.tmp 63) (.tmp 62)⟩])
  (.seq (.ops [⟨(some 64), none, .fieldAddr 2 (.tmp 3)⟩, ⟨(some 65), none, .load 1 false (.tmp 64)⟩, ⟨(some 66), none, .conv .i64 (.tmp 65)⟩, ⟨(some 67), none, .fieldAddr 1 (.tmp 7)⟩, ⟨(some 68), none, .load 1 false (.tmp 67)⟩, ⟨(some 69), none, .bin .add none (.tmp 68) (.const (.int .i64 1))⟩, ⟨(some 70), none, .bin .rem none (.tmp 66) (.tmp 69)⟩, ⟨(some 71), none, .fieldAddr 2 (.tmp 7)⟩, ⟨none, none, .store 1 (.tmp 71) (.tmp 70)⟩])
  (.seq (.ops [⟨(some 72), none, .load 3 true (.tmp 7)⟩, ⟨none, none, .store 3 (.tmp 6) (.tmp 72)⟩])
  .ret))))))), [(6, (some (3, true)))]⟩
/-- headword/headwordlaw10.long -/
def ir46 : IF := ⟨(.seq (.ops [⟨(some 4), none, .move (.const (.bool false))⟩])
  (.seq (.seq (.ops [⟨(some 7), none, .move (.tmp 0)⟩, ⟨(some 8), none, .len (.tmp 7)⟩, ⟨(some 9), none, .move (.const (.int .i64 0))⟩])
  (.block 0 (.loop true [0, 1, 7, 8, 9] (.seq (.ops [⟨(some 10), none, .bin .lss none (.tmp 9) (.tmp 8)⟩])
      (.seq (.cond (.tmp 10) .skip
      (.exit 0))
      (.seq (.block 1 (.seq (.ops [⟨(some 11), none, .move (.tmp 9)⟩, ⟨(some 12), none, .indexS 1 (.tmp 7) (.tmp 9)⟩, ⟨(some 13), none, .load 1 false (.tmp 12)⟩, ⟨(some 5), none, .move (.tmp 11)⟩, ⟨(some 6), none, .move (.tmp 13)⟩])
        (.seq (.ops [⟨(some 14), none, .move (.tmp 6)⟩, ⟨(some 15), none, .bin .lss none (.tmp 14) (.const (.int .i64 1))⟩, ⟨(some 16), none, .move (.tmp 15)⟩, ⟨(some 17), (some (16, false)), .move (.tmp 6)⟩, ⟨(some 18), (some (16, false)), .move (.tmp 1)⟩, ⟨(some 19), (some (16, false)), .bin .gtr none (.tmp 17) (.tmp 18)⟩, ⟨(some 20), none, .pick (.tmp 16) (.const (.bool true)) (.tmp 19)⟩, ⟨(some 21), none, .move (.tmp 20)⟩, ⟨(some 22), (some (21, false)), .move (.tmp 5)⟩, ⟨(some 23), (some (21, false)), .bin .gtr none (.tmp 22) (.const (.int .i64 0))⟩, ⟨(some 24), (some (21, false)), .move (.tmp 23)⟩, ⟨(some 25), (some (24, true)), .move (.tmp 6)⟩, ⟨(some 26), (some (24, true)), .move (.tmp 0)⟩, ⟨(some 27), (some (24, true)), .move (.tmp 5)⟩, ⟨(some 28), (some (24, true)), .bin .sub none (.tmp 27) (.const (.int .i64 1))⟩, ⟨(some 29), (some (24, true)), .indexS 1 (.tmp 26) (.tmp 28)⟩, ⟨(some 30), (some (24, true)), .load 1 false (.tmp 29)⟩, ⟨(some 31), (some (24, true)), .bin .leq none (.tmp 25) (.tmp 30)⟩, ⟨(some 32), (some (21, false)), .pick (.tmp 24) (.tmp 31) (.const (.bool false))⟩, ⟨(some 33), none, .pick (.tmp 21) (.const (.bool true)) (.tmp 32)⟩])
        (.cond (.tmp 33) (.seq (.ops [⟨(some 4), none, .move (.const (.bool false))⟩])
          .ret)
        .skip))))
      (.ops [⟨(some 34), none, .bin .add none (.tmp 9) (.const (.int .i64 1))⟩, ⟨(some 9), none, .move (.tmp 34)⟩])))))))
  (.seq (.ops [⟨(some 35), none, .move (.tmp 0)⟩, ⟨(some 36), none, .len (.tmp 35)⟩, ⟨(some 37), none, .bin .gtr none (.tmp 36) (.const (.int .i64 0))⟩, ⟨(some 38), none, .move (.tmp 37)⟩, ⟨(some 39), (some (38, true)), .move (.tmp 0)⟩, ⟨(some 40), (some (38, true)), .move (.tmp 0)⟩, ⟨(some 41), (some (38, true)), .len (.tmp 40)⟩, ⟨(some 42), (some (38, true)), .bin .sub none (.tmp 41) (.const (.int .i64 1))⟩, ⟨(some 43), (some (38, true)), .indexS 1 (.tmp 39) (.tmp 42)⟩, ⟨(some 44), (some (38, true)), .load 1 false (.tmp 43)⟩, ⟨(some 45), (some (38, true)), .move (.tmp 1)⟩, ⟨(some 46), (some (38, true)), .bin .eql none (.tmp 44) (.tmp 45)⟩, ⟨(some 47), none, .pick (.tmp 38) (.tmp 46) (.const (.bool false))⟩, ⟨(some 4), none, .move (.tmp 47)⟩])
  .ret))), [(4, none)]⟩
/-- headword/headwordlaw10.cuts -/
def ir47 : IF := ⟨(.seq (.ops [⟨(some 2), none, .box (.tmp 0)⟩, ⟨(some 3), none, .box (.tmp 1)⟩])
  (.seq (.ops [⟨(some 4), none, .alloc [(.v .nilFunc)]⟩])
  (.seq (.ops [⟨(some 5), none, .func (.func 88) [] [(.tmp 2), (.tmp 3), (.tmp 4)]⟩, ⟨none, none, .store 1 (.tmp 4) (.tmp 5)⟩])
  (.ops [⟨(some 6), none, .load 1 false (.tmp 4)⟩, ⟨(some 7), none, .callv false (.tmp 6) [(.const (.slice none 0 0)), (.const (.int .i64 0))]⟩])))), []⟩
/-- headword/headwordlaw10.VolumeStretches$1 -/
def ir48 : IF := ⟨(.seq (.ops [⟨(some 12), none, .load 3 true (.tmp 1)⟩, ⟨(some 13), none, .move (.tmp 0)⟩, ⟨(some 14), none, .call true 49 [(.tmp 12), (.tmp 13)]⟩, ⟨(some 11), none, .move (.tmp 14)⟩, ⟨(some 15), none, .extract 0 (.tmp 11)⟩, ⟨(some 16), none, .extract 1 (.tmp 11)⟩, ⟨(some 17), none, .extract 2 (.tmp 11)⟩, ⟨(some 6), none, .move (.tmp 15)⟩, ⟨(some 7), none, .move (.tmp 16)⟩, ⟨(some 8), none, .move (.tmp 17)⟩])
  (.seq (.seq (.ops [⟨(some 18), none, .move (.tmp 6)⟩, ⟨(some 19), none, .bin .geq none (.tmp 18) (.const (.int .i64 0))⟩])
  (.cond (.tmp 19) .ret
  .skip))
  (.seq (.ops [⟨(some 20), none, .load 1 false (.tmp 2)⟩, ⟨(some 21), none, .move (.tmp 0)⟩, ⟨(some 22), none, .len (.tmp 21)⟩, ⟨(some 23), none, .min (.tmp 20) (.tmp 22)⟩, ⟨none, none, .store 1 (.tmp 2) (.tmp 23)⟩])
  (.seq (.ops [⟨(some 24), none, .move (.tmp 0)⟩, ⟨(some 25), none, .len (.tmp 24)⟩, ⟨(some 26), none, .move (.const (.int .i64 0))⟩])
  (.block 0 (.loop false [3, 4, 24, 25, 26] (.seq (.ops [⟨(some 27), none, .bin .lss none (.tmp 26) (.tmp 25)⟩])
      (.seq (.cond (.tmp 27) .skip
      (.exit 0))
      (.seq (.block 1 (.seq (.ops [⟨(some 28), none, .move (.tmp 26)⟩, ⟨(some 29), none, .indexS 1 (.tmp 24) (.tmp 26)⟩, ⟨(some 30), none, .load 1 false (.tmp 29)⟩, ⟨(some 9), none, .move (.tmp 28)⟩, ⟨(some 10), none, .move (.tmp 30)⟩])
        (.ops [⟨(some 31), none, .load 1 false (.tmp 3)⟩, ⟨(some 32), none, .move (.tmp 31)⟩, ⟨(some 33), (some (32, true)), .move (.tmp 9)⟩, ⟨(some 34), (some (32, true)), .load 1 false (.tmp 4)⟩, ⟨(some 35), (some (32, true)), .len (.tmp 34)⟩, ⟨(some 36), (some (32, true)), .bin .geq none (.tmp 33) (.tmp 35)⟩, ⟨(some 37), (some (32, true)), .move (.tmp 36)⟩, ⟨(some 38), (some (37, false)), .move (.tmp 10)⟩, ⟨(some 39), (some (37, false)), .load 1 false (.tmp 4)⟩, ⟨(some 40), (some (37, false)), .move (.tmp 9)⟩, ⟨(some 41), (some (37, false)), .indexS 1 (.tmp 39) (.tmp 40)⟩, ⟨(some 42), (some (37, false)), .load 1 false (.tmp 41)⟩, ⟨(some 43), (some (37, false)), .bin .leq none (.tmp 38) (.tmp 42)⟩, ⟨(some 44), (some (32, true)), .pick (.tmp 37) (.const (.bool true)) (.tmp 43)⟩, ⟨(some 45), none, .pick (.tmp 32) (.tmp 44) (.const (.bool false))⟩, ⟨none, none, .store 1 (.tmp 3) (.tmp 45)⟩])))
      (.ops [⟨(some 46), none, .bin .add none (.tmp 26) (.const (.int .i64 1))⟩, ⟨(some 26), none, .move (.tmp 46)⟩])))))))))), []⟩
/-- headword/headwordlaw10.judged -/
def ir49 : IF := ⟨(.seq (.ops [⟨(some 2), none, .box (.tmp 0)⟩, ⟨(some 4), none, .move (.const (.int .i64 0))⟩, ⟨(some 5), none, .move (.const (.int .i64 0))⟩, ⟨(some 6), none, .move (.const (.bool false))⟩])
  (.seq (.ops [⟨(some 7), none, .move (.const (.int .i64 (-1)))⟩, ⟨(some 8), none, .move (.const (.int .i64 (-1)))⟩, ⟨(some 9), none, .move (.const (.bool false))⟩])
  (.seq (.ops [⟨(some 10), none, .move (.const (.int .i64 0))⟩])
  (.seq (.seq (.ops [⟨(some 13), none, .move (.tmp 1)⟩, ⟨(some 14), none, .len (.tmp 13)⟩, ⟨(some 15), none, .move (.const (.int .i64 0))⟩])
  (.block 0 (.loop true [2, 7, 8, 9, 10, 13, 14, 15] (.seq (.ops [⟨(some 16), none, .bin .lss none (.tmp 15) (.tmp 14)⟩])
      (.seq (.cond (.tmp 16) .skip
      (.exit 0))
      (.seq (.block 1 (.seq (.ops [⟨(some 17), none, .move (.tmp 15)⟩, ⟨(some 18), none, .indexS 1 (.tmp 13) (.tmp 15)⟩, ⟨(some 19), none, .load 1 false (.tmp 18)⟩, ⟨(some 11), none, .move (.tmp 17)⟩, ⟨(some 12), none, .move (.tmp 19)⟩])
        (.seq (.seq (.ops [⟨(some 20), none, .move (.tmp 7)⟩, ⟨(some 21), none, .bin .lss none (.tmp 20) (.const (.int .i64 0))⟩, ⟨(some 22), none, .move (.tmp 21)⟩, ⟨(some 23), (some (22, true)), .load 3 true (.tmp 2)⟩, ⟨(some 24), (some (22, true)), .move (.tmp 10)⟩, ⟨(some 25), (some (22, true)), .move (.tmp 12)⟩, ⟨(some 26), (some (22, true)), .call true 50 [(.tmp 23), (.tmp 24), (.tmp 25)]⟩, ⟨(some 27), (some (22, true)), .fieldAddr 1 (.tmp 2)⟩, ⟨(some 28), (some (22, true)), .load 1 false (.tmp 27)⟩, ⟨(some 29), (some (22, true)), .bin .gtr none (.tmp 26) (.tmp 28)⟩, ⟨(some 30), none, .pick (.tmp 22) (.tmp 29) (.const (.bool false))⟩])
        (.cond (.tmp 30) (.ops [⟨(some 31), none, .move (.tmp 11)⟩, ⟨(some 7), none, .move (.tmp 31)⟩])
        .skip))
        (.seq (.seq (.ops [⟨(some 32), none, .move (.tmp 8)⟩, ⟨(some 33), none, .bin .lss none (.tmp 32) (.const (.int .i64 0))⟩, ⟨(some 34), none, .move (.tmp 33)⟩, ⟨(some 35), (some (34, true)), .load 3 true (.tmp 2)⟩, ⟨(some 36), (some (34, true)), .move (.tmp 10)⟩, ⟨(some 37), (some (34, true)), .move (.tmp 12)⟩, ⟨(some 38), (some (34, true)), .call true 89 [(.tmp 35), (.tmp 36), (.tmp 37)]⟩, ⟨(some 39), (some (34, true)), .fieldAddr 1 (.tmp 2)⟩, ⟨(some 40), (some (34, true)), .load 1 false (.tmp 39)⟩, ⟨(some 41), (some (34, true)), .bin .gtr none (.tmp 38) (.tmp 40)⟩, ⟨(some 42), none, .pick (.tmp 34) (.tmp 41) (.const (.bool false))⟩])
        (.cond (.tmp 42) (.ops [⟨(some 43), none, .move (.tmp 11)⟩, ⟨(some 8), none, .move (.tmp 43)⟩])
        .skip))
        (.seq (.ops [⟨(some 44), none, .move (.tmp 9)⟩, ⟨(some 45), none, .move (.tmp 44)⟩, ⟨(some 46), (some (45, false)), .load 3 true (.tmp 2)⟩, ⟨(some 47), (some (45, false)), .move (.tmp 10)⟩, ⟨(some 48), (some (45, false)), .move (.tmp 12)⟩, ⟨(some 49), (some (45, false)), .call true 89 [(.tmp 46), (.tmp 47), (.tmp 48)]⟩, ⟨(some 50), (some (45, false)), .fieldAddr 2 (.tmp 2)⟩, ⟨(some 51), (some (45, false)), .load 1 false (.tmp 50)⟩, ⟨(some 52), (some (45, false)), .bin .lss none (.tmp 49) (.tmp 51)⟩, ⟨(some 53), none, .pick (.tmp 45) (.const (.bool true)) (.tmp 52)⟩, ⟨(some 9), none, .move (.tmp 53)⟩])
        (.ops [⟨(some 54), none, .move (.tmp 12)⟩, ⟨(some 10), none, .move (.tmp 54)⟩]))))))
      (.ops [⟨(some 55), none, .bin .add none (.tmp 15) (.const (.int .i64 1))⟩, ⟨(some 15), none, .move (.tmp 55)⟩])))))))
  (.seq (.ops [⟨(some 56), none, .move (.tmp 7)⟩, ⟨(some 57), none, .move (.tmp 8)⟩, ⟨(some 58), none, .move (.tmp 9)⟩, ⟨(some 4), none, .move (.tmp 56)⟩, ⟨(some 5), none, .move (.tmp 57)⟩, ⟨(some 6), none, .move (.tmp 58)⟩])
  .ret))))), [(4, none), (5, none), (6, none)]⟩
/-- headword/headwordlaw10.most -/
def ir50 : IF := ⟨(.seq (.ops [⟨(some 3), none, .box (.tmp 0)⟩, ⟨(some 6), none, .move (.const (.int .i64 0))⟩])
  (.seq (.ops [⟨(some 7), none, .move (.const (.int .i64 0))⟩])
  (.seq (.seq (.ops [⟨(some 10), none, .fieldAddr 0 (.tmp 3)⟩, ⟨(some 11), none, .load 1 false (.tmp 10)⟩, ⟨(some 12), none, .move (.tmp 1)⟩, ⟨(some 13), none, .move (.tmp 2)⟩, ⟨(some 14), none, .slice 2 (.tmp 11) (some (.tmp 12)) (some (.tmp 13)) none⟩, ⟨(some 15), none, .len (.tmp 14)⟩, ⟨(some 16), none, .move (.const (.int .i64 0))⟩])
  (.block 0 (.loop true [7, 14, 15, 16] (.seq (.ops [⟨(some 17), none, .bin .lss none (.tmp 16) (.tmp 15)⟩])
      (.seq (.cond (.tmp 17) .skip
      (.exit 0))
      (.seq (.block 1 (.seq (.ops [⟨(some 18), none, .indexS 2 (.tmp 14) (.tmp 16)⟩, ⟨(some 19), none, .load 2 true (.tmp 18)⟩, ⟨(some 9), none, .alloc [(.v (.int .i64 0)), (.v (.int .i64 0))]⟩, ⟨none, none, .store 2 (.tmp 9) (.tmp 19)⟩])
        (.ops [⟨(some 20), none, .move (.tmp 7)⟩, ⟨(some 21), none, .fieldAddr 1 (.tmp 9)⟩, ⟨(some 22), none, .load 1 false (.tmp 21)⟩, ⟨(some 23), none, .bin .add none (.tmp 20) (.tmp 22)⟩, ⟨(some 7), none, .move (.tmp 23)⟩])))
      (.ops [⟨(some 24), none, .bin .add none (.tmp 16) (.const (.int .i64 1))⟩, ⟨(some 16), none, .move (.tmp 24)⟩])))))))
  (.seq (.ops [⟨(some 25), none, .move (.tmp 7)⟩, ⟨(some 6), none, .move (.tmp 25)⟩])
  .ret)))), [(6, none)]⟩
/-- headword/headwordlaw10.VolumeSafe$1 -/
def ir51 : IF := ⟨(.seq (.ops [⟨(some 10), none, .load 3 true (.tmp 1)⟩, ⟨(some 11), none, .move (.tmp 0)⟩, ⟨(some 12), none, .call true 49 [(.tmp 10), (.tmp 11)]⟩, ⟨(some 9), none, .move (.tmp 12)⟩, ⟨(some 13), none, .extract 0 (.tmp 9)⟩, ⟨(some 14), none, .extract 1 (.tmp 9)⟩, ⟨(some 15), none, .extract 2 (.tmp 9)⟩, ⟨(some 6), none, .move (.tmp 13)⟩, ⟨(some 7), none, .move (.tmp 14)⟩, ⟨(some 8), none, .move (.tmp 15)⟩])
  (.seq (.seq (.ops [⟨(some 16), none, .move (.tmp 6)⟩, ⟨(some 17), none, .bin .geq none (.tmp 16) (.const (.int .i64 0))⟩])
  (.cond (.tmp 17) .ret
  .skip))
  (.seq (.ops [⟨(some 18), none, .load 1 false (.tmp 2)⟩, ⟨(some 19), none, .bin .add none (.tmp 18) (.const (.int .i64 1))⟩, ⟨none, none, .store 1 (.tmp 2) (.tmp 19)⟩])
  (.seq (.seq (.ops [⟨(some 20), none, .move (.tmp 8)⟩])
  (.cond (.tmp 20) .ret
  .skip))
  (.seq (.ops [⟨(some 21), none, .load 1 false (.tmp 3)⟩, ⟨(some 22), none, .bin .add none (.tmp 21) (.const (.int .i64 1))⟩, ⟨none, none, .store 1 (.tmp 3) (.tmp 22)⟩])
  (.seq (.ops [⟨(some 23), none, .load 1 false (.tmp 4)⟩, ⟨(some 24), none, .bin .eql (some 0) (.tmp 23) (.const (.slice none 0 0))⟩, ⟨(some 25), none, .move (.tmp 24)⟩, ⟨(some 26), (some (25, false)), .move (.tmp 0)⟩, ⟨(some 27), (some (25, false)), .len (.tmp 26)⟩, ⟨(some 28), (some (25, false)), .load 1 false (.tmp 4)⟩, ⟨(some 29), (some (25, false)), .len (.tmp 28)⟩, ⟨(some 30), (some (25, false)), .bin .lss none (.tmp 27) (.tmp 29)⟩, ⟨(some 31), none, .pick (.tmp 25) (.const (.bool true)) (.tmp 30)⟩])
  (.cond (.tmp 31) (.ops [⟨(some 32), none, .move (.tmp 0)⟩, ⟨none, none, .store 1 (.tmp 4) (.tmp 32)⟩])
  .skip))))))), []⟩
/-- headword/headwordlaw10.VolumeLengths$1 -/
def ir52 : IF := ⟨(.seq (.seq (.ops [⟨(some 9), none, .move (.tmp 0)⟩, ⟨(some 10), none, .fieldAddr 0 (.tmp 2)⟩, ⟨(some 11), none, .load 1 false (.tmp 10)⟩, ⟨(some 12), none, .len (.tmp 11)⟩, ⟨(some 13), none, .bin .eql none (.tmp 9) (.tmp 12)⟩])
  (.cond (.tmp 13) (.seq (.ops [⟨(some 14), none, .load 1 false (.tmp 3)⟩, ⟨(some 15), none, .move (.tmp 14)⟩, ⟨(some 16), (some (15, false)), .move (.tmp 1)⟩, ⟨(some 17), (some (15, false)), .fieldAddr 1 (.tmp 2)⟩, ⟨(some 18), (some (15, false)), .load 1 false (.tmp 17)⟩, ⟨(some 19), (some (15, false)), .bin .gtr none (.tmp 16) (.tmp 18)⟩, ⟨(some 20), none, .pick (.tmp 15) (.const (.bool true)) (.tmp 19)⟩, ⟨none, none, .store 1 (.tmp 3) (.tmp 20)⟩])
    (.seq (.ops [⟨(some 21), none, .load 1 false (.tmp 4)⟩, ⟨(some 22), none, .move (.tmp 21)⟩, ⟨(some 23), (some (22, true)), .move (.tmp 1)⟩, ⟨(some 24), (some (22, true)), .fieldAddr 1 (.tmp 2)⟩, ⟨(some 25), (some (22, true)), .load 1 false (.tmp 24)⟩, ⟨(some 26), (some (22, true)), .bin .gtr none (.tmp 23) (.tmp 25)⟩, ⟨(some 27), none, .pick (.tmp 22) (.tmp 26) (.const (.bool false))⟩, ⟨none, none, .store 1 (.tmp 4) (.tmp 27)⟩])
    .ret))
  .skip))
  (.seq (.ops [⟨(some 28), none, .fieldAddr 0 (.tmp 2)⟩, ⟨(some 29), none, .load 1 false (.tmp 28)⟩, ⟨(some 30), none, .move (.tmp 0)⟩, ⟨(some 31), none, .indexS 2 (.tmp 29) (.tmp 30)⟩, ⟨(some 32), none, .fieldAddr 0 (.tmp 31)⟩, ⟨(some 33), none, .load 1 false (.tmp 32)⟩, ⟨(some 8), none, .move (.tmp 33)⟩])
  (.block 0 (.loop false [0, 1, 2, 5, 8] (.seq (.seq (.ops [⟨(some 34), none, .move (.tmp 8)⟩, ⟨(some 35), none, .fieldAddr 0 (.tmp 2)⟩, ⟨(some 36), none, .load 1 false (.tmp 35)⟩, ⟨(some 37), none, .move (.tmp 0)⟩, ⟨(some 38), none, .indexS 2 (.tmp 36) (.tmp 37)⟩, ⟨(some 39), none, .fieldAddr 1 (.tmp 38)⟩, ⟨(some 40), none, .load 1 false (.tmp 39)⟩, ⟨(some 41), none, .bin .leq none (.tmp 34) (.tmp 40)⟩])
      (.cond (.tmp 41) .skip
      (.exit 0)))
      (.seq (.block 1 (.ops [⟨(some 44), none, .load 1 false (.tmp 5)⟩, ⟨(some 45), none, .move (.tmp 0)⟩, ⟨(some 46), none, .bin .add none (.tmp 45) (.const (.int .i64 1))⟩, ⟨(some 47), none, .move (.tmp 1)⟩, ⟨(some 48), none, .move (.tmp 8)⟩, ⟨(some 49), none, .bin .add none (.tmp 47) (.tmp 48)⟩, ⟨(some 50), none, .callv false (.tmp 44) [(.tmp 46), (.tmp 49)]⟩]))
      (.ops [⟨(some 42), none, .move (.tmp 8)⟩, ⟨(some 43), none, .bin .add none (.tmp 42) (.const (.int .i64 1))⟩, ⟨(some 8), none, .move (.tmp 43)⟩]))))))), []⟩
/-- headword/headwordlaw10.list -/
def ir53 : IF := ⟨(.seq (.ops [⟨(some 2), none, .move (.const (.slice none 0 0))⟩])
  (.seq (.ops [⟨(some 3), none, .move (.tmp 0)⟩, ⟨(some 2), none, .move (.tmp 3)⟩])
  .ret)), [(2, none)]⟩
/-- headword/headwordlaw10.B -/
def ir54 : IF := ⟨(.seq (.ops [⟨(some 0), none, .alloc [(.v (.slice none 0 0)), (.v (.int .i64 0)), (.v (.int .i64 0))]⟩])
  (.seq (.ops [⟨(some 1), none, .lit 1 false (.v (.int .i64 0)) 2 [(0, (.const (.int .i64 1))), (1, (.const (.int .i64 8)))]⟩, ⟨(some 2), none, .call true 57 [(.const (.int .i64 7)), (.const (.int .i64 0)), (.tmp 1)]⟩, ⟨none, none, .store 3 (.tmp 0) (.tmp 2)⟩])
  .ret)), [(0, (some (3, true)))]⟩
/-- headword/headwordlaw10.A -/
def ir55 : IF := ⟨(.seq (.ops [⟨(some 0), none, .alloc [(.v (.slice none 0 0)), (.v (.int .i64 0)), (.v (.int .i64 0))]⟩])
  (.seq (.ops [⟨(some 1), none, .lit 1 false (.v (.int .i64 0)) 10 [(0, (.const (.int .i64 2))), (1, (.const (.int .i64 3))), (2, (.const (.int .i64 1))), (3, (.const (.int .i64 4))), (4, (.const (.int .i64 2))), (5, (.const (.int .i64 2))), (6, (.const (.int .i64 3))), (7, (.const (.int .i64 5))), (8, (.const (.int .i64 1))), (9, (.const (.int .i64 1)))]⟩, ⟨(some 2), none, .call true 57 [(.const (.int .i64 7)), (.const (.int .i64 2)), (.tmp 1)]⟩, ⟨none, none, .store 3 (.tmp 0) (.tmp 2)⟩])
  .ret)), [(0, (some (3, true)))]⟩
/-- headword/headwordlaw10.row -/
def ir56 : IF := ⟨(.seq (.ops [⟨(some 2), none, .move (.const (.slice none 0 0))⟩])
  (.seq (.ops [⟨(some 3), none, .move (.const (.slice none 0 0))⟩])
  (.seq (.seq (.ops [⟨(some 4), none, .move (.const (.int .i64 0))⟩])
  (.block 0 (.loop true [0, 3, 4] (.seq (.seq (.ops [⟨(some 5), none, .move (.tmp 4)⟩, ⟨(some 6), none, .bin .add none (.tmp 5) (.const (.int .i64 1))⟩, ⟨(some 7), none, .move (.tmp 0)⟩, ⟨(some 8), none, .len (.tmp 7)⟩, ⟨(some 9), none, .bin .lss none (.tmp 6) (.tmp 8)⟩])
      (.cond (.tmp 9) .skip
      (.exit 0)))
      (.seq (.block 1 (.ops [⟨(some 12), none, .move (.tmp 3)⟩, ⟨(some 13), none, .move (.tmp 0)⟩, ⟨(some 14), none, .move (.tmp 4)⟩, ⟨(some 15), none, .indexS 1 (.tmp 13) (.tmp 14)⟩, ⟨(some 16), none, .load 1 false (.tmp 15)⟩, ⟨(some 17), none, .move (.tmp 0)⟩, ⟨(some 18), none, .move (.tmp 4)⟩, ⟨(some 19), none, .bin .add none (.tmp 18) (.const (.int .i64 1))⟩, ⟨(some 20), none, .indexS 1 (.tmp 17) (.tmp 19)⟩, ⟨(some 21), none, .load 1 false (.tmp 20)⟩, ⟨(some 22), none, .build [(.v (.int .i64 0)), (.v (.int .i64 0))] [(0, 1, (.tmp 16)), (1, 1, (.tmp 21))]⟩, ⟨(some 23), none, .lit 2 true (.agg [(.v (.int .i64 0)), (.v (.int .i64 0))]) 1 [(0, (.tmp 22))]⟩, ⟨(some 24), none, .append 2 false (.tmp 12) (.tmp 23)⟩, ⟨(some 3), none, .move (.tmp 24)⟩]))
      (.ops [⟨(some 10), none, .move (.tmp 4)⟩, ⟨(some 11), none, .bin .add none (.tmp 10) (.const (.int .i64 2))⟩, ⟨(some 4), none, .move (.tmp 11)⟩]))))))
  (.seq (.ops [⟨(some 25), none, .move (.tmp 3)⟩, ⟨(some 2), none, .move (.tmp 25)⟩])
  .ret)))), [(2, none)]⟩
/-- headword/headwordlaw10.book -/
def ir57 : IF := ⟨(.seq (.ops [⟨(some 6), none, .alloc [(.v (.slice none 0 0)), (.v (.int .i64 0)), (.v (.int .i64 0))]⟩])
  (.seq (.ops [⟨(some 9), none, .move (.tmp 0)⟩, ⟨(some 10), none, .move (.tmp 1)⟩, ⟨(some 11), none, .build [(.v (.slice none 0 0)), (.v (.int .i64 0)), (.v (.int .i64 0))] [(1, 1, (.tmp 9)), (2, 1, (.tmp 10))]⟩, ⟨(some 7), none, .alloc [(.v (.slice none 0 0)), (.v (.int .i64 0)), (.v (.int .i64 0))]⟩, ⟨none, none, .store 3 (.tmp 7) (.tmp 11)⟩])
  (.seq (.seq (.ops [⟨(some 8), none, .move (.const (.int .i64 0))⟩])
  (.block 0 (.loop true [2, 6, 7, 8] (.seq (.seq (.ops [⟨(some 12), none, .move (.tmp 8)⟩, ⟨(some 13), none, .bin .add none (.tmp 12) (.const (.int .i64 1))⟩, ⟨(some 14), none, .move (.tmp 2)⟩, ⟨(some 15), none, .len (.tmp 14)⟩, ⟨(some 16), none, .bin .lss none (.tmp 13) (.tmp 15)⟩])
      (.cond (.tmp 16) .skip
      (.exit 0)))
      (.seq (.block 1 (.ops [⟨(some 19), none, .fieldAddr 0 (.tmp 7)⟩, ⟨(some 20), none, .load 1 false (.tmp 19)⟩, ⟨(some 21), none, .move (.tmp 2)⟩, ⟨(some 22), none, .move (.tmp 8)⟩, ⟨(some 23), none, .indexS 1 (.tmp 21) (.tmp 22)⟩, ⟨(some 24), none, .load 1 false (.tmp 23)⟩, ⟨(some 25), none, .move (.tmp 2)⟩, ⟨(some 26), none, .move (.tmp 8)⟩, ⟨(some 27), none, .bin .add none (.tmp 26) (.const (.int .i64 1))⟩, ⟨(some 28), none, .indexS 1 (.tmp 25) (.tmp 27)⟩, ⟨(some 29), none, .load 1 false (.tmp 28)⟩, ⟨(some 30), none, .build [(.v (.int .i64 0)), (.v (.int .i64 0))] [(0, 1, (.tmp 24)), (1, 1, (.tmp 29))]⟩, ⟨(some 31), none, .lit 2 true (.agg [(.v (.int .i64 0)), (.v (.int .i64 0))]) 1 [(0, (.tmp 30))]⟩, ⟨(some 32), none, .append 2 false (.tmp 20) (.tmp 31)⟩, ⟨(some 33), none, .fieldAddr 0 (.tmp 7)⟩, ⟨none, none, .store 1 (.tmp 33) (.tmp 32)⟩]))
      (.ops [⟨(some 17), none, .move (.tmp 8)⟩, ⟨(some 18), none, .bin .add none (.tmp 17) (.const (.int .i64 2))⟩, ⟨(some 8), none, .move (.tmp 18)⟩]))))))
  (.seq (.ops [⟨(some 34), none, .load 3 true (.tmp 7)⟩, ⟨none, none, .store 3 (.tmp 6) (.tmp 34)⟩])
  .ret)))), [(6, (some (3, true)))]⟩
/-- headword/headwordlaw10.VolumeRow$1 -/
def ir58 : IF := ⟨(.seq (.seq (.ops [⟨(some 10), none, .move (.tmp 0)⟩, ⟨(some 11), none, .len (.tmp 10)⟩, ⟨(some 12), none, .load 1 false (.tmp 2)⟩, ⟨(some 13), none, .len (.tmp 12)⟩, ⟨(some 14), none, .bin .gtr none (.tmp 11) (.tmp 13)⟩])
  (.cond (.tmp 14) (.ops [⟨(some 15), none, .move (.tmp 0)⟩, ⟨(some 16), none, .call true 59 [(.tmp 15)]⟩, ⟨none, none, .store 1 (.tmp 2) (.tmp 16)⟩])
  .skip))
  (.seq (.ops [⟨(some 17), none, .move (.tmp 1)⟩, ⟨(some 8), none, .move (.tmp 17)⟩])
  (.block 0 (.loop false [0, 3, 4, 5, 8] (.seq (.seq (.ops [⟨(some 18), none, .move (.tmp 8)⟩, ⟨(some 19), none, .load 1 false (.tmp 3)⟩, ⟨(some 20), none, .bin .lss none (.tmp 18) (.tmp 19)⟩])
      (.cond (.tmp 20) .skip
      (.exit 0)))
      (.seq (.block 1 (.seq (.ops [⟨(some 23), none, .move (.tmp 8)⟩, ⟨(some 24), none, .bin .add none (.tmp 23) (.const (.int .i64 1))⟩, ⟨(some 9), none, .move (.tmp 24)⟩])
        (.block 2 (.loop false [0, 3, 4, 5, 8, 9] (.seq (.seq (.ops [⟨(some 25), none, .move (.tmp 9)⟩, ⟨(some 26), none, .load 1 false (.tmp 3)⟩, ⟨(some 27), none, .bin .lss none (.tmp 25) (.tmp 26)⟩])
            (.cond (.tmp 27) .skip
            (.exit 2)))
            (.seq (.block 3 (.seq (.ops [⟨(some 30), none, .load 3 true (.tmp 4)⟩, ⟨(some 31), none, .move (.tmp 8)⟩, ⟨(some 32), none, .move (.tmp 9)⟩, ⟨(some 33), none, .bin .add none (.tmp 32) (.const (.int .i64 1))⟩, ⟨(some 34), none, .call true 50 [(.tmp 30), (.tmp 31), (.tmp 33)]⟩, ⟨(some 35), none, .fieldAddr 1 (.tmp 4)⟩, ⟨(some 36), none, .load 1 false (.tmp 35)⟩, ⟨(some 37), none, .bin .gtr none (.tmp 34) (.tmp 36)⟩])
              (.cond (.tmp 37) (.ops [⟨(some 38), none, .load 1 false (.tmp 5)⟩, ⟨(some 39), none, .move (.tmp 0)⟩, ⟨(some 40), none, .move (.tmp 0)⟩, ⟨(some 41), none, .len (.tmp 40)⟩, ⟨(some 42), none, .move (.tmp 0)⟩, ⟨(some 43), none, .len (.tmp 42)⟩, ⟨(some 44), none, .slice 2 (.tmp 39) none (some (.tmp 41)) (some (.tmp 43))⟩, ⟨(some 45), none, .move (.tmp 8)⟩, ⟨(some 46), none, .move (.tmp 9)⟩, ⟨(some 47), none, .build [(.v (.int .i64 0)), (.v (.int .i64 0))] [(0, 1, (.tmp 45)), (1, 1, (.tmp 46))]⟩, ⟨(some 48), none, .lit 2 true (.agg [(.v (.int .i64 0)), (.v (.int .i64 0))]) 1 [(0, (.tmp 47))]⟩, ⟨(some 49), none, .append 2 false (.tmp 44) (.tmp 48)⟩, ⟨(some 50), none, .move (.tmp 9)⟩, ⟨(some 51), none, .callv false (.tmp 38) [(.tmp 49), (.tmp 50)]⟩])
              .skip)))
            (.ops [⟨(some 28), none, .move (.tmp 9)⟩, ⟨(some 29), none, .bin .add none (.tmp 28) (.const (.int .i64 1))⟩, ⟨(some 9), none, .move (.tmp 29)⟩])))))))
      (.ops [⟨(some 21), none, .move (.tmp 8)⟩, ⟨(some 22), none, .bin .add none (.tmp 21) (.const (.int .i64 1))⟩, ⟨(some 8), none, .move (.tmp 22)⟩]))))))), []⟩
/-- slices.Clone[[][2]int,[2]int] -/
def ir59 : IF := ⟨(.seq (.ops [⟨(some 2), none, .move (.const (.slice none 0 0))⟩])
  (.seq (.seq (.ops [⟨(some 3), none, .move (.tmp 0)⟩, ⟨(some 4), none, .bin .eql (some 0) (.tmp 3) (.const (.slice none 0 0))⟩])
  (.cond (.tmp 4) (.seq (.ops [⟨(some 2), none, .move (.const (.slice none 0 0))⟩])
    .ret)
  .skip))
  (.seq (.ops [⟨(some 5), none, .lit 2 true (.agg [(.v (.int .i64 0)), (.v (.int .i64 0))]) 0 []⟩, ⟨(some 6), none, .move (.tmp 0)⟩, ⟨(some 7), none, .append 2 true (.tmp 5) (.tmp 6)⟩, ⟨(some 2), none, .move (.tmp 7)⟩])
  .ret))), [(2, none)]⟩
/-- slices.Clone[[]headword/volume.Article,headword/volume.Article] -/
def ir60 : IF := ⟨(.seq (.ops [⟨(some 2), none, .move (.const (.slice none 0 0))⟩])
  (.seq (.seq (.ops [⟨(some 3), none, .move (.tmp 0)⟩, ⟨(some 4), none, .bin .eql (some 0) (.tmp 3) (.const (.slice none 0 0))⟩])
  (.cond (.tmp 4) (.seq (.ops [⟨(some 2), none, .move (.const (.slice none 0 0))⟩])
    .ret)
  .skip))
  (.seq (.ops [⟨(some 5), none, .lit 2 true (.agg [(.v (.int .i64 0)), (.v (.int .i64 0))]) 0 []⟩, ⟨(some 6), none, .move (.tmp 0)⟩, ⟨(some 7), none, .append 2 true (.tmp 5) (.tmp 6)⟩, ⟨(some 2), none, .move (.tmp 7)⟩])
  .ret))), [(2, none)]⟩
/-- slices.Reverse[[]headword/volume.Article,headword/volume.Article] -/
def ir61 : IF := ⟨(.seq (.ops [⟨(some 4), none, .move (.tmp 0)⟩, ⟨(some 5), none, .len (.tmp 4)⟩, ⟨(some 6), none, .bin .sub none (.tmp 5) (.const (.int .i64 1))⟩, ⟨(some 2), none, .move (.const (.int .i64 0))⟩, ⟨(some 3), none, .move (.tmp 6)⟩])
  (.block 0 (.loop true [0, 2, 3] (.seq (.seq (.ops [⟨(some 7), none, .move (.tmp 2)⟩, ⟨(some 8), none, .move (.tmp 3)⟩, ⟨(some 9), none, .bin .lss none (.tmp 7) (.tmp 8)⟩])
      (.cond (.tmp 9) .skip
      (.exit 0)))
      (.seq (.block 1 (.ops [⟨(some 14), none, .move (.tmp 0)⟩, ⟨(some 15), none, .move (.tmp 2)⟩, ⟨(some 16), none, .move (.tmp 0)⟩, ⟨(some 17), none, .move (.tmp 3)⟩, ⟨(some 18), none, .move (.tmp 0)⟩, ⟨(some 19), none, .move (.tmp 3)⟩, ⟨(some 20), none, .indexS 2 (.tmp 18) (.tmp 19)⟩, ⟨(some 21), none, .load 2 true (.tmp 20)⟩, ⟨(some 22), none, .move (.tmp 0)⟩, ⟨(some 23), none, .move (.tmp 2)⟩, ⟨(some 24), none, .indexS 2 (.tmp 22) (.tmp 23)⟩, ⟨(some 25), none, .load 2 true (.tmp 24)⟩, ⟨(some 26), none, .indexS 2 (.tmp 14) (.tmp 15)⟩, ⟨none, none, .store 2 (.tmp 26) (.tmp 21)⟩, ⟨(some 27), none, .indexS 2 (.tmp 16) (.tmp 17)⟩, ⟨none, none, .store 2 (.tmp 27) (.tmp 25)⟩]))
      (.ops [⟨(some 10), none, .move (.tmp 2)⟩, ⟨(some 11), none, .bin .add none (.tmp 10) (.const (.int .i64 1))⟩, ⟨(some 12), none, .move (.tmp 3)⟩, ⟨(some 13), none, .bin .sub none (.tmp 12) (.const (.int .i64 1))⟩, ⟨(some 2), none, .move (.tmp 11)⟩, ⟨(some 3), none, .move (.tmp 13)⟩])))))), []⟩
/-- slices.SortFunc[[][2]int,[2]int] -/
def ir62 : IF := ⟨(.seq (.ops [⟨(some 5), none, .move (.tmp 0)⟩, ⟨(some 6), none, .len (.tmp 5)⟩, ⟨(some 4), none, .move (.tmp 6)⟩])
  (.ops [⟨(some 7), none, .move (.tmp 0)⟩, ⟨(some 8), none, .move (.tmp 4)⟩, ⟨(some 9), none, .move (.tmp 4)⟩, ⟨(some 10), none, .conv .u64 (.tmp 9)⟩, ⟨(some 11), none, .call true 91 [(.tmp 10)]⟩, ⟨(some 12), none, .move (.tmp 1)⟩, ⟨(some 13), none, .call false 90 [(.tmp 7), (.const (.int .i64 0)), (.tmp 8), (.tmp 11), (.tmp 12)]⟩])), []⟩
/-- headword/headwordlaw10.VolumeShown$1 -/
def ir63 : IF := ⟨(.seq (.ops [⟨(some 2), none, .box (.tmp 0)⟩, ⟨(some 3), none, .box (.tmp 1)⟩, ⟨(some 4), none, .move (.const (.int .i64 0))⟩])
  (.seq (.ops [⟨(some 5), none, .slicea 2 1 false (.tmp 2) none none none⟩, ⟨(some 6), none, .slicea 2 1 false (.tmp 3) none none none⟩, ⟨(some 7), none, .call true 64 [(.tmp 5), (.tmp 6)]⟩, ⟨(some 4), none, .move (.tmp 7)⟩])
  .ret)), [(4, none)]⟩
/-- slices.Compare[[]int,int] -/
def ir64 : IF := ⟨(.seq (.ops [⟨(some 4), none, .move (.const (.int .i64 0))⟩])
  (.seq (.seq (.ops [⟨(some 9), none, .move (.tmp 0)⟩, ⟨(some 10), none, .len (.tmp 9)⟩, ⟨(some 11), none, .move (.const (.int .i64 0))⟩])
  (.block 0 (.loop true [0, 1, 9, 10, 11] (.seq (.ops [⟨(some 12), none, .bin .lss none (.tmp 11) (.tmp 10)⟩])
      (.seq (.cond (.tmp 12) .skip
      (.exit 0))
      (.seq (.block 1 (.seq (.ops [⟨(some 13), none, .move (.tmp 11)⟩, ⟨(some 14), none, .indexS 1 (.tmp 9) (.tmp 11)⟩, ⟨(some 15), none, .load 1 false (.tmp 14)⟩, ⟨(some 5), none, .move (.tmp 13)⟩, ⟨(some 6), none, .move (.tmp 15)⟩])
        (.seq (.seq (.ops [⟨(some 16), none, .move (.tmp 5)⟩, ⟨(some 17), none, .move (.tmp 1)⟩, ⟨(some 18), none, .len (.tmp 17)⟩, ⟨(some 19), none, .bin .geq none (.tmp 16) (.tmp 18)⟩])
        (.cond (.tmp 19) (.seq (.ops [⟨(some 4), none, .move (.const (.int .i64 1))⟩])
          .ret)
        .skip))
        (.seq (.ops [⟨(some 20), none, .move (.tmp 1)⟩, ⟨(some 21), none, .move (.tmp 5)⟩, ⟨(some 22), none, .indexS 1 (.tmp 20) (.tmp 21)⟩, ⟨(some 23), none, .load 1 false (.tmp 22)⟩, ⟨(some 7), none, .move (.tmp 23)⟩])
        (.seq (.ops [⟨(some 24), none, .move (.tmp 6)⟩, ⟨(some 25), none, .move (.tmp 7)⟩, ⟨(some 26), none, .call true 92 [(.tmp 24), (.tmp 25)]⟩, ⟨(some 8), none, .move (.tmp 26)⟩])
        (.seq (.ops [⟨(some 27), none, .move (.tmp 8)⟩, ⟨(some 28), none, .bin .neq none (.tmp 27) (.const (.int .i64 0))⟩])
        (.cond (.tmp 28) (.seq (.ops [⟨(some 29), none, .move (.tmp 8)⟩, ⟨(some 4), none, .move (.tmp 29)⟩])
          .ret)
        .skip)))))))
      (.ops [⟨(some 30), none, .bin .add none (.tmp 11) (.const (.int .i64 1))⟩, ⟨(some 11), none, .move (.tmp 30)⟩])))))))
  (.seq (.seq (.ops [⟨(some 31), none, .move (.tmp 0)⟩, ⟨(some 32), none, .len (.tmp 31)⟩, ⟨(some 33), none, .move (.tmp 1)⟩, ⟨(some 34), none, .len (.tmp 33)⟩, ⟨(some 35), none, .bin .lss none (.tmp 32) (.tmp 34)⟩])
  (.cond (.tmp 35) (.seq (.ops [⟨(some 4), none, .move (.const (.int .i64 (-1)))⟩])
    .ret)
  .skip))
  (.seq (.ops [⟨(some 4), none, .move (.const (.int .i64 0))⟩])
  .ret)))), [(4, none)]⟩
/-- headword/volume.opened -/
def ir65 : IF := ⟨(.seq (.ops [⟨(some 2), none, .box (.tmp 0)⟩, ⟨(some 4), none, .move (.const (.int .i64 0))⟩])
  (.seq (.seq (.ops [⟨(some 9), none, .load 3 true (.tmp 2)⟩, ⟨(some 10), none, .call true 25 [(.tmp 9)]⟩, ⟨(some 5), none, .move (.tmp 10)⟩])
  (.seq (.ops [⟨(some 11), none, .move (.tmp 5)⟩, ⟨(some 12), none, .bin .neq none (.tmp 11) (.const (.int .i64 0))⟩])
  (.cond (.tmp 12) (.seq (.ops [⟨(some 13), none, .move (.tmp 5)⟩, ⟨(some 4), none, .move (.tmp 13)⟩])
    .ret)
  .skip)))
  (.seq (.ops [⟨(some 6), none, .move (.const (.int .i64 0))⟩])
  (.seq (.seq (.ops [⟨(some 14), none, .move (.tmp 1)⟩, ⟨(some 15), none, .len (.tmp 14)⟩, ⟨(some 16), none, .move (.const (.int .i64 0))⟩])
  (.block 0 (.loop true [2, 6, 14, 15, 16] (.seq (.ops [⟨(some 17), none, .bin .lss none (.tmp 16) (.tmp 15)⟩])
      (.seq (.cond (.tmp 17) .skip
      (.exit 0))
      (.seq (.block 1 (.seq (.ops [⟨(some 18), none, .move (.tmp 16)⟩, ⟨(some 19), none, .indexS 1 (.tmp 14) (.tmp 16)⟩, ⟨(some 20), none, .load 1 false (.tmp 19)⟩, ⟨(some 7), none, .move (.tmp 18)⟩, ⟨(some 8), none, .move (.tmp 20)⟩])
        (.seq (.block 2 (.seq (.ops [⟨(some 22), none, .move (.tmp 8)⟩, ⟨(some 23), none, .bin .lss none (.tmp 22) (.const (.int .i64 1))⟩, ⟨(some 24), none, .move (.tmp 23)⟩, ⟨(some 25), (some (24, false)), .move (.tmp 8)⟩, ⟨(some 26), (some (24, false)), .fieldAddr 0 (.tmp 2)⟩, ⟨(some 27), (some (24, false)), .load 1 false (.tmp 26)⟩, ⟨(some 28), (some (24, false)), .len (.tmp 27)⟩, ⟨(some 29), (some (24, false)), .bin .gtr none (.tmp 25) (.tmp 28)⟩, ⟨(some 30), none, .pick (.tmp 24) (.const (.bool true)) (.tmp 29)⟩, ⟨(some 21), none, .move (.tmp 30)⟩])
          (.cond (.tmp 21) (.seq (.ops [⟨(some 4), none, .move (.const (.int .i64 2))⟩])
            .ret)
          (.seq (.ops [⟨(some 32), none, .move (.tmp 7)⟩, ⟨(some 33), none, .bin .gtr none (.tmp 32) (.const (.int .i64 0))⟩, ⟨(some 34), none, .move (.tmp 33)⟩, ⟨(some 35), (some (34, true)), .move (.tmp 8)⟩, ⟨(some 36), (some (34, true)), .move (.tmp 6)⟩, ⟨(some 37), (some (34, true)), .bin .leq none (.tmp 35) (.tmp 36)⟩, ⟨(some 38), none, .pick (.tmp 34) (.tmp 37) (.const (.bool false))⟩, ⟨(some 31), none, .move (.tmp 38)⟩])
            (.cond (.tmp 31) (.seq (.ops [⟨(some 4), none, .move (.const (.int .i64 7))⟩])
              .ret)
            .skip)))))
        (.ops [⟨(some 39), none, .move (.tmp 8)⟩, ⟨(some 6), none, .move (.tmp 39)⟩]))))
      (.ops [⟨(some 40), none, .bin .add none (.tmp 16) (.const (.int .i64 1))⟩, ⟨(some 16), none, .move (.tmp 40)⟩])))))))
  (.seq (.seq (.ops [⟨(some 41), none, .move (.tmp 6)⟩, ⟨(some 42), none, .fieldAddr 0 (.tmp 2)⟩, ⟨(some 43), none, .load 1 false (.tmp 42)⟩, ⟨(some 44), none, .len (.tmp 43)⟩, ⟨(some 45), none, .bin .neq none (.tmp 41) (.tmp 44)⟩])
  (.cond (.tmp 45) (.seq (.ops [⟨(some 4), none, .move (.const (.int .i64 5))⟩])
    .ret)
  .skip))
  (.seq (.ops [⟨(some 4), none, .move (.const (.int .i64 0))⟩])
  .ret)))))), [(4, none)]⟩
/-- headword/volume.named -/
def ir66 : IF := ⟨(.seq (.ops [⟨(some 2), none, .move (.const (.int .i64 0))⟩, ⟨(some 3), none, .move (.const (.int .i64 0))⟩])
  (.seq (.seq (.ops [⟨(some 4), none, .move (.tmp 0)⟩, ⟨(some 5), none, .bin .lss none (.tmp 4) (.const (.int .i64 0))⟩])
  (.cond (.tmp 5) (.seq (.ops [⟨(some 2), none, .move (.const (.int .i64 0))⟩, ⟨(some 3), none, .move (.const (.int .i64 13))⟩])
    .ret)
  .skip))
  (.seq (.ops [⟨(some 6), none, .move (.tmp 0)⟩, ⟨(some 2), none, .move (.tmp 6)⟩, ⟨(some 3), none, .move (.const (.int .i64 0))⟩])
  .ret))), [(2, none), (3, none)]⟩
/-- (headword/volume.Book).over -/
def ir67 : IF := ⟨(.seq (.ops [⟨(some 3), none, .box (.tmp 0)⟩, ⟨(some 6), none, .move (.const (.int .i64 0))⟩])
  (.seq (.ops [⟨(some 7), none, .load 3 true (.tmp 3)⟩, ⟨(some 8), none, .move (.tmp 2)⟩, ⟨(some 9), none, .call true 75 [(.tmp 7), (.tmp 8)]⟩, ⟨(some 10), none, .move (.tmp 1)⟩, ⟨(some 11), none, .func (.func 93) [] [(.tmp 3)]⟩, ⟨(some 12), none, .call false 79 [(.tmp 9), (.tmp 10), (.tmp 11)]⟩, ⟨(some 6), none, .move (.tmp 12)⟩])
  .ret)), [(6, none)]⟩
/-- (headword/volume.Article).most -/
def ir68 : IF := ⟨(.seq (.ops [⟨(some 1), none, .box (.tmp 0)⟩, ⟨(some 2), none, .move (.const (.int .i64 0))⟩])
  (.seq (.ops [⟨(some 3), none, .fieldAddr 1 (.tmp 1)⟩, ⟨(some 4), none, .load 1 false (.tmp 3)⟩, ⟨(some 2), none, .move (.tmp 4)⟩])
  .ret)), [(2, none)]⟩
/-- headword/headwordref10.cut -/
def ir69 : IF := ⟨(.seq (.ops [⟨(some 2), none, .box (.tmp 0)⟩, ⟨(some 4), none, .move (.const (.int .i64 0))⟩])
  (.seq (.ops [⟨(some 7), none, .load 3 true (.tmp 2)⟩, ⟨(some 8), none, .call true 26 [(.tmp 7)]⟩, ⟨(some 5), none, .move (.tmp 8)⟩])
  (.seq (.seq (.ops [⟨(some 6), none, .move (.const (.int .i64 0))⟩])
  (.block 0 (.loop true [1, 2, 5, 6] (.seq (.seq (.ops [⟨(some 9), none, .move (.tmp 6)⟩, ⟨(some 10), none, .move (.tmp 1)⟩, ⟨(some 11), none, .len (.tmp 10)⟩, ⟨(some 12), none, .bin .lss none (.tmp 9) (.tmp 11)⟩, ⟨(some 13), none, .move (.tmp 12)⟩, ⟨(some 14), (some (13, true)), .move (.tmp 5)⟩, ⟨(some 15), (some (13, true)), .bin .eql none (.tmp 14) (.const (.int .i64 0))⟩, ⟨(some 16), none, .pick (.tmp 13) (.tmp 15) (.const (.bool false))⟩])
      (.cond (.tmp 16) .skip
      (.exit 0)))
      (.seq (.block 1 (.seq (.ops [⟨(some 19), none, .move (.tmp 1)⟩, ⟨(some 20), none, .move (.tmp 6)⟩, ⟨(some 21), none, .indexS 1 (.tmp 19) (.tmp 20)⟩, ⟨(some 22), none, .load 1 false (.tmp 21)⟩, ⟨(some 23), none, .fieldAddr 0 (.tmp 2)⟩, ⟨(some 24), none, .load 1 false (.tmp 23)⟩, ⟨(some 25), none, .len (.tmp 24)⟩, ⟨(some 26), none, .call true 77 [(.tmp 22), (.const (.int .i64 1)), (.tmp 25)]⟩, ⟨(some 27), none, .not (.tmp 26)⟩])
        (.cond (.tmp 27) (.ops [⟨(some 5), none, .move (.const (.int .i64 2))⟩])
        (.seq (.ops [⟨(some 28), none, .move (.tmp 6)⟩, ⟨(some 29), none, .bin .gtr none (.tmp 28) (.const (.int .i64 0))⟩, ⟨(some 30), none, .move (.tmp 29)⟩, ⟨(some 31), (some (30, true)), .move (.tmp 1)⟩, ⟨(some 32), (some (30, true)), .move (.tmp 6)⟩, ⟨(some 33), (some (30, true)), .indexS 1 (.tmp 31) (.tmp 32)⟩, ⟨(some 34), (some (30, true)), .load 1 false (.tmp 33)⟩, ⟨(some 35), (some (30, true)), .move (.tmp 1)⟩, ⟨(some 36), (some (30, true)), .move (.tmp 6)⟩, ⟨(some 37), (some (30, true)), .bin .sub none (.tmp 36) (.const (.int .i64 1))⟩, ⟨(some 38), (some (30, true)), .indexS 1 (.tmp 35) (.tmp 37)⟩, ⟨(some 39), (some (30, true)), .load 1 false (.tmp 38)⟩, ⟨(some 40), (some (30, true)), .bin .leq none (.tmp 34) (.tmp 39)⟩, ⟨(some 41), none, .pick (.tmp 30) (.tmp 40) (.const (.bool false))⟩])
          (.cond (.tmp 41) (.ops [⟨(some 5), none, .move (.const (.int .i64 7))⟩])
          .skip)))))
      (.ops [⟨(some 17), none, .move (.tmp 6)⟩, ⟨(some 18), none, .bin .add none (.tmp 17) (.const (.int .i64 1))⟩, ⟨(some 6), none, .move (.tmp 18)⟩]))))))
  (.seq (.seq (.ops [⟨(some 42), none, .move (.tmp 5)⟩, ⟨(some 43), none, .bin .eql none (.tmp 42) (.const (.int .i64 0))⟩, ⟨(some 44), none, .move (.tmp 43)⟩, ⟨(some 45), (some (44, true)), .move (.tmp 1)⟩, ⟨(some 46), (some (44, true)), .len (.tmp 45)⟩, ⟨(some 47), (some (44, true)), .bin .eql none (.tmp 46) (.const (.int .i64 0))⟩, ⟨(some 48), (some (44, true)), .move (.tmp 47)⟩, ⟨(some 49), (some (48, false)), .move (.tmp 1)⟩, ⟨(some 50), (some (48, false)), .move (.tmp 1)⟩, ⟨(some 51), (some (48, false)), .len (.tmp 50)⟩, ⟨(some 52), (some (48, false)), .bin .sub none (.tmp 51) (.const (.int .i64 1))⟩, ⟨(some 53), (some (48, false)), .indexS 1 (.tmp 49) (.tmp 52)⟩, ⟨(some 54), (some (48, false)), .load 1 false (.tmp 53)⟩, ⟨(some 55), (some (48, false)), .fieldAddr 0 (.tmp 2)⟩, ⟨(some 56), (some (48, false)), .load 1 false (.tmp 55)⟩, ⟨(some 57), (some (48, false)), .len (.tmp 56)⟩, ⟨(some 58), (some (48, false)), .bin .neq none (.tmp 54) (.tmp 57)⟩, ⟨(some 59), (some (44, true)), .pick (.tmp 48) (.const (.bool true)) (.tmp 58)⟩, ⟨(some 60), none, .pick (.tmp 44) (.tmp 59) (.const (.bool false))⟩])
  (.cond (.tmp 60) (.ops [⟨(some 5), none, .move (.const (.int .i64 5))⟩])
  .skip))
  (.seq (.ops [⟨(some 61), none, .move (.tmp 5)⟩, ⟨(some 4), none, .move (.tmp 61)⟩])
  .ret))))), [(4, none)]⟩
/-- headword/headwordref10.may -/
def ir70 : IF := ⟨(.seq (.ops [⟨(some 2), none, .box (.tmp 0)⟩, ⟨(some 4), none, .move (.const (.int .i64 0))⟩])
  (.seq (.ops [⟨(some 5), none, .move (.const (.int .i64 0))⟩])
  (.seq (.block 0 (.loop true [1, 2, 5] (.seq (.seq (.ops [⟨(some 6), none, .move (.tmp 5)⟩, ⟨(some 7), none, .move (.tmp 1)⟩, ⟨(some 8), none, .len (.tmp 7)⟩, ⟨(some 9), none, .bin .lss none (.tmp 6) (.tmp 8)⟩, ⟨(some 10), none, .move (.tmp 9)⟩, ⟨(some 11), (some (10, true)), .load 3 true (.tmp 2)⟩, ⟨(some 12), (some (10, true)), .move (.tmp 1)⟩, ⟨(some 13), (some (10, true)), .move (.tmp 5)⟩, ⟨(some 14), (some (10, true)), .call true 73 [(.tmp 12), (.tmp 13)]⟩, ⟨(some 15), (some (10, true)), .move (.tmp 1)⟩, ⟨(some 16), (some (10, true)), .move (.tmp 5)⟩, ⟨(some 17), (some (10, true)), .indexS 1 (.tmp 15) (.tmp 16)⟩, ⟨(some 18), (some (10, true)), .load 1 false (.tmp 17)⟩, ⟨(some 19), (some (10, true)), .call true 78 [(.tmp 11), (.tmp 14), (.tmp 18)]⟩, ⟨(some 20), (some (10, true)), .fieldAddr 1 (.tmp 2)⟩, ⟨(some 21), (some (10, true)), .load 1 false (.tmp 20)⟩, ⟨(some 22), (some (10, true)), .bin .leq none (.tmp 19) (.tmp 21)⟩, ⟨(some 23), none, .pick (.tmp 10) (.tmp 22) (.const (.bool false))⟩])
      (.cond (.tmp 23) .skip
      (.exit 0)))
      (.block 1 (.ops [⟨(some 24), none, .move (.tmp 5)⟩, ⟨(some 25), none, .bin .add none (.tmp 24) (.const (.int .i64 1))⟩, ⟨(some 5), none, .move (.tmp 25)⟩])))))
  (.seq (.ops [⟨(some 26), none, .move (.tmp 5)⟩, ⟨(some 4), none, .move (.tmp 26)⟩])
  .ret)))), [(4, none)]⟩
/-- (headword/volume.Article).least -/
def ir71 : IF := ⟨(.seq (.ops [⟨(some 1), none, .box (.tmp 0)⟩, ⟨(some 2), none, .move (.const (.int .i64 0))⟩])
  (.seq (.ops [⟨(some 3), none, .fieldAddr 0 (.tmp 1)⟩, ⟨(some 4), none, .load 1 false (.tmp 3)⟩, ⟨(some 2), none, .move (.tmp 4)⟩])
  .ret)), [(2, none)]⟩
/-- headword/headwordref10.least -/
def ir72 : IF := ⟨(.seq (.ops [⟨(some 3), none, .box (.tmp 0)⟩, ⟨(some 6), none, .move (.const (.int .i64 0))⟩])
  (.seq (.ops [⟨(some 7), none, .move (.const (.int .i64 0))⟩])
  (.seq (.seq (.ops [⟨(some 9), none, .move (.tmp 1)⟩, ⟨(some 8), none, .move (.tmp 9)⟩])
  (.block 0 (.loop true [2, 3, 7, 8] (.seq (.seq (.ops [⟨(some 10), none, .move (.tmp 8)⟩, ⟨(some 11), none, .move (.tmp 2)⟩, ⟨(some 12), none, .bin .lss none (.tmp 10) (.tmp 11)⟩])
      (.cond (.tmp 12) .skip
      (.exit 0)))
      (.seq (.block 1 (.ops [⟨(some 15), none, .move (.tmp 7)⟩, ⟨(some 16), none, .fieldAddr 0 (.tmp 3)⟩, ⟨(some 17), none, .load 1 false (.tmp 16)⟩, ⟨(some 18), none, .move (.tmp 8)⟩, ⟨(some 19), none, .indexS 2 (.tmp 17) (.tmp 18)⟩, ⟨(some 20), none, .fieldAddr 0 (.tmp 19)⟩, ⟨(some 21), none, .load 1 false (.tmp 20)⟩, ⟨(some 22), none, .bin .add none (.tmp 15) (.tmp 21)⟩, ⟨(some 7), none, .move (.tmp 22)⟩]))
      (.ops [⟨(some 13), none, .move (.tmp 8)⟩, ⟨(some 14), none, .bin .add none (.tmp 13) (.const (.int .i64 1))⟩, ⟨(some 8), none, .move (.tmp 14)⟩]))))))
  (.seq (.ops [⟨(some 23), none, .move (.tmp 7)⟩, ⟨(some 6), none, .move (.tmp 23)⟩])
  .ret)))), [(6, none)]⟩
/-- headword/headwordref10.begin -/
def ir73 : IF := ⟨(.seq (.ops [⟨(some 4), none, .move (.const (.int .i64 0))⟩])
  (.seq (.seq (.ops [⟨(some 5), none, .move (.tmp 1)⟩, ⟨(some 6), none, .bin .eql none (.tmp 5) (.const (.int .i64 0))⟩])
  (.cond (.tmp 6) (.seq (.ops [⟨(some 4), none, .move (.const (.int .i64 0))⟩])
    .ret)
  .skip))
  (.seq (.ops [⟨(some 7), none, .move (.tmp 0)⟩, ⟨(some 8), none, .move (.tmp 1)⟩, ⟨(some 9), none, .bin .sub none (.tmp 8) (.const (.int .i64 1))⟩, ⟨(some 10), none, .indexS 1 (.tmp 7) (.tmp 9)⟩, ⟨(some 11), none, .load 1 false (.tmp 10)⟩, ⟨(some 4), none, .move (.tmp 11)⟩])
  .ret))), [(4, none)]⟩
/-- slices.BinarySearch[[]int,int] -/
def ir74 : IF := ⟨(.seq (.ops [⟨(some 4), none, .move (.const (.int .i64 0))⟩, ⟨(some 5), none, .move (.const (.bool false))⟩])
  (.seq (.ops [⟨(some 10), none, .move (.tmp 0)⟩, ⟨(some 11), none, .len (.tmp 10)⟩, ⟨(some 6), none, .move (.tmp 11)⟩])
  (.seq (.ops [⟨(some 12), none, .move (.tmp 6)⟩, ⟨(some 7), none, .move (.const (.int .i64 0))⟩, ⟨(some 8), none, .move (.tmp 12)⟩])
  (.seq (.block 0 (.loop true [0, 1, 6, 7, 8] (.seq (.seq (.ops [⟨(some 13), none, .move (.tmp 7)⟩, ⟨(some 14), none, .move (.tmp 8)⟩, ⟨(some 15), none, .bin .lss none (.tmp 13) (.tmp 14)⟩])
      (.cond (.tmp 15) .skip
      (.exit 0)))
      (.block 1 (.seq (.ops [⟨(some 16), none, .move (.tmp 7)⟩, ⟨(some 17), none, .move (.tmp 8)⟩, ⟨(some 18), none, .bin .add none (.tmp 16) (.tmp 17)⟩, ⟨(some 19), none, .conv .u64 (.tmp 18)⟩, ⟨(some 20), none, .bin .shr none (.tmp 19) (.const (.int .u64 1))⟩, ⟨(some 21), none, .conv .i64 (.tmp 20)⟩, ⟨(some 9), none, .move (.tmp 21)⟩])
        (.seq (.ops [⟨(some 22), none, .move (.tmp 0)⟩, ⟨(some 23), none, .move (.tmp 9)⟩, ⟨(some 24), none, .indexS 1 (.tmp 22) (.tmp 23)⟩, ⟨(some 25), none, .load 1 false (.tmp 24)⟩, ⟨(some 26), none, .move (.tmp 1)⟩, ⟨(some 27), none, .call true 94 [(.tmp 25), (.tmp 26)]⟩])
        (.cond (.tmp 27) (.ops [⟨(some 28), none, .move (.tmp 9)⟩, ⟨(some 29), none, .bin .add none (.tmp 28) (.const (.int .i64 1))⟩, ⟨(some 7), none, .move (.tmp 29)⟩])
        (.ops [⟨(some 30), none, .move (.tmp 9)⟩, ⟨(some 8), none, .move (.tmp 30)⟩]))))))))
  (.seq (.ops [⟨(some 31), none, .move (.tmp 7)⟩, ⟨(some 32), none, .move (.tmp 7)⟩, ⟨(some 33), none, .move (.tmp 6)⟩, ⟨(some 34), none, .bin .lss none (.tmp 32) (.tmp 33)⟩, ⟨(some 35), none, .move (.tmp 34)⟩, ⟨(some 36), (some (35, true)), .move (.tmp 0)⟩, ⟨(some 37), (some (35, true)), .move (.tmp 7)⟩, ⟨(some 38), (some (35, true)), .indexS 1 (.tmp 36) (.tmp 37)⟩, ⟨(some 39), (some (35, true)), .load 1 false (.tmp 38)⟩, ⟨(some 40), (some (35, true)), .move (.tmp 1)⟩, ⟨(some 41), (some (35, true)), .bin .eql none (.tmp 39) (.tmp 40)⟩, ⟨(some 42), (some (35, true)), .move (.tmp 41)⟩, ⟨(some 43), (some (42, false)), .move (.tmp 0)⟩, ⟨(some 44), (some (42, false)), .move (.tmp 7)⟩, ⟨(some 45), (some (42, false)), .indexS 1 (.tmp 43) (.tmp 44)⟩, ⟨(some 46), (some (42, false)), .load 1 false (.tmp 45)⟩, ⟨(some 47), (some (42, false)), .call true 95 [(.tmp 46)]⟩, ⟨(some 48), (some (42, false)), .move (.tmp 47)⟩, ⟨(some 49), (some (48, true)), .move (.tmp 1)⟩, ⟨(some 50), (some (48, true)), .call true 95 [(.tmp 49)]⟩, ⟨(some 51), (some (42, false)), .pick (.tmp 48) (.tmp 50) (.const (.bool false))⟩, ⟨(some 52), (some (35, true)), .pick (.tmp 42) (.const (.bool true)) (.tmp 51)⟩, ⟨(some 53), none, .pick (.tmp 35) (.tmp 52) (.const (.bool false))⟩, ⟨(some 4), none, .move (.tmp 31)⟩, ⟨(some 5), none, .move (.tmp 53)⟩])
  .ret))))), [(4, none), (5, none)]⟩
/-- (headword/volume.Book).counted -/
def ir75 : IF := ⟨(.seq (.ops [⟨(some 2), none, .box (.tmp 0)⟩, ⟨(some 4), none, .move (.const (.slice none 0 0))⟩])
  (.seq (.ops [⟨(some 8), none, .lit 1 false (.v (.int .i64 0)) 1 [(0, (.const (.int .i64 0)))]⟩, ⟨(some 5), none, .move (.tmp 8)⟩])
  (.seq (.seq (.ops [⟨(some 9), none, .fieldAddr 0 (.tmp 2)⟩, ⟨(some 10), none, .load 1 false (.tmp 9)⟩, ⟨(some 11), none, .len (.tmp 10)⟩, ⟨(some 12), none, .move (.const (.int .i64 0))⟩])
  (.block 0 (.loop true [1, 5, 10, 11, 12] (.seq (.ops [⟨(some 13), none, .bin .lss none (.tmp 12) (.tmp 11)⟩])
      (.seq (.cond (.tmp 13) .skip
      (.exit 0))
      (.seq (.block 1 (.seq (.ops [⟨(some 14), none, .indexS 2 (.tmp 10) (.tmp 12)⟩, ⟨(some 15), none, .load 2 true (.tmp 14)⟩, ⟨(some 7), none, .alloc [(.v (.int .i64 0)), (.v (.int .i64 0))]⟩, ⟨none, none, .store 2 (.tmp 7) (.tmp 15)⟩])
        (.ops [⟨(some 16), none, .move (.tmp 5)⟩, ⟨(some 17), none, .move (.tmp 5)⟩, ⟨(some 18), none, .move (.tmp 5)⟩, ⟨(some 19), none, .len (.tmp 18)⟩, ⟨(some 20), none, .bin .sub none (.tmp 19) (.const (.int .i64 1))⟩, ⟨(some 21), none, .indexS 1 (.tmp 17) (.tmp 20)⟩, ⟨(some 22), none, .load 1 false (.tmp 21)⟩, ⟨(some 23), none, .move (.tmp 1)⟩, ⟨(some 24), none, .load 2 true (.tmp 7)⟩, ⟨(some 25), none, .callv true (.tmp 23) [(.tmp 24)]⟩, ⟨(some 26), none, .bin .add none (.tmp 22) (.tmp 25)⟩, ⟨(some 27), none, .lit 1 false (.v (.int .i64 0)) 1 [(0, (.tmp 26))]⟩, ⟨(some 28), none, .append 1 false (.tmp 16) (.tmp 27)⟩, ⟨(some 5), none, .move (.tmp 28)⟩])))
      (.ops [⟨(some 29), none, .bin .add none (.tmp 12) (.const (.int .i64 1))⟩, ⟨(some 12), none, .move (.tmp 29)⟩])))))))
  (.seq (.ops [⟨(some 30), none, .move (.tmp 5)⟩, ⟨(some 4), none, .move (.tmp 30)⟩])
  .ret)))), [(4, none)]⟩
/-- (headword/volume.lines).between -/
def ir76 : IF := ⟨(.seq (.ops [⟨(some 6), none, .move (.const (.int .i64 0))⟩])
  (.seq (.ops [⟨(some 7), none, .move (.tmp 0)⟩, ⟨(some 8), none, .move (.tmp 2)⟩, ⟨(some 9), none, .indexS 1 (.tmp 7) (.tmp 8)⟩, ⟨(some 10), none, .load 1 false (.tmp 9)⟩, ⟨(some 11), none, .move (.tmp 0)⟩, ⟨(some 12), none, .move (.tmp 1)⟩, ⟨(some 13), none, .indexS 1 (.tmp 11) (.tmp 12)⟩, ⟨(some 14), none, .load 1 false (.tmp 13)⟩, ⟨(some 15), none, .bin .sub none (.tmp 10) (.tmp 14)⟩, ⟨(some 6), none, .move (.tmp 15)⟩])
  .ret)), [(6, none)]⟩
/-- headword/headwordref10.in -/
def ir77 : IF := ⟨(.seq (.ops [⟨(some 6), none, .move (.const (.bool false))⟩])
  (.seq (.ops [⟨(some 7), none, .move (.tmp 0)⟩, ⟨(some 8), none, .move (.tmp 1)⟩, ⟨(some 9), none, .bin .geq none (.tmp 7) (.tmp 8)⟩, ⟨(some 10), none, .move (.tmp 9)⟩, ⟨(some 11), (some (10, true)), .move (.tmp 0)⟩, ⟨(some 12), (some (10, true)), .move (.tmp 2)⟩, ⟨(some 13), (some (10, true)), .bin .leq none (.tmp 11) (.tmp 12)⟩, ⟨(some 14), none, .pick (.tmp 10) (.tmp 13) (.const (.bool false))⟩, ⟨(some 6), none, .move (.tmp 14)⟩])
  .ret)), [(6, none)]⟩
/-- headword/headwordref10.most -/
def ir78 : IF := ⟨(.seq (.ops [⟨(some 3), none, .box (.tmp 0)⟩, ⟨(some 6), none, .move (.const (.int .i64 0))⟩])
  (.seq (.ops [⟨(some 7), none, .move (.const (.int .i64 0))⟩])
  (.seq (.seq (.ops [⟨(some 9), none, .move (.tmp 1)⟩, ⟨(some 8), none, .move (.tmp 9)⟩])
  (.block 0 (.loop true [2, 3, 7, 8] (.seq (.seq (.ops [⟨(some 10), none, .move (.tmp 8)⟩, ⟨(some 11), none, .move (.tmp 2)⟩, ⟨(some 12), none, .bin .lss none (.tmp 10) (.tmp 11)⟩])
      (.cond (.tmp 12) .skip
      (.exit 0)))
      (.seq (.block 1 (.ops [⟨(some 15), none, .move (.tmp 7)⟩, ⟨(some 16), none, .fieldAddr 0 (.tmp 3)⟩, ⟨(some 17), none, .load 1 false (.tmp 16)⟩, ⟨(some 18), none, .move (.tmp 8)⟩, ⟨(some 19), none, .indexS 2 (.tmp 17) (.tmp 18)⟩, ⟨(some 20), none, .fieldAddr 1 (.tmp 19)⟩, ⟨(some 21), none, .load 1 false (.tmp 20)⟩, ⟨(some 22), none, .bin .add none (.tmp 15) (.tmp 21)⟩, ⟨(some 7), none, .move (.tmp 22)⟩]))
      (.ops [⟨(some 13), none, .move (.tmp 8)⟩, ⟨(some 14), none, .bin .add none (.tmp 13) (.const (.int .i64 1))⟩, ⟨(some 8), none, .move (.tmp 14)⟩]))))))
  (.seq (.ops [⟨(some 23), none, .move (.tmp 7)⟩, ⟨(some 6), none, .move (.tmp 23)⟩])
  .ret)))), [(6, none)]⟩
/-- (headword/volume.lines).first -/
def ir79 : IF := ⟨(.seq (.ops [⟨(some 6), none, .move (.const (.int .i64 0))⟩])
  (.seq (.ops [⟨(some 7), none, .move (.const (.int .i64 0))⟩])
  (.seq (.seq (.ops [⟨(some 10), none, .move (.tmp 1)⟩, ⟨(some 11), none, .len (.tmp 10)⟩, ⟨(some 12), none, .move (.const (.int .i64 0))⟩])
  (.block 0 (.loop false [0, 2, 7, 10, 11, 12] (.seq (.ops [⟨(some 13), none, .bin .lss none (.tmp 12) (.tmp 11)⟩])
      (.seq (.cond (.tmp 13) .skip
      (.exit 0))
      (.seq (.block 1 (.seq (.ops [⟨(some 14), none, .move (.tmp 12)⟩, ⟨(some 15), none, .indexS 1 (.tmp 10) (.tmp 12)⟩, ⟨(some 16), none, .load 1 false (.tmp 15)⟩, ⟨(some 8), none, .move (.tmp 14)⟩, ⟨(some 9), none, .move (.tmp 16)⟩])
        (.seq (.seq (.ops [⟨(some 17), none, .move (.tmp 2)⟩, ⟨(some 18), none, .move (.tmp 0)⟩, ⟨(some 19), none, .move (.tmp 7)⟩, ⟨(some 20), none, .move (.tmp 9)⟩, ⟨(some 21), none, .call true 76 [(.tmp 18), (.tmp 19), (.tmp 20)]⟩, ⟨(some 22), none, .callv false (.tmp 17) [(.tmp 21)]⟩])
        (.cond (.tmp 22) (.seq (.ops [⟨(some 23), none, .move (.tmp 8)⟩, ⟨(some 6), none, .move (.tmp 23)⟩])
          .ret)
        .skip))
        (.ops [⟨(some 24), none, .move (.tmp 9)⟩, ⟨(some 7), none, .move (.tmp 24)⟩]))))
      (.ops [⟨(some 25), none, .bin .add none (.tmp 12) (.const (.int .i64 1))⟩, ⟨(some 12), none, .move (.tmp 25)⟩])))))))
  (.seq (.ops [⟨(some 6), none, .move (.const (.int .i64 (-1)))⟩])
  .ret)))), [(6, none)]⟩
/-- headword/volume.Safe$1 -/
def ir80 : IF := ⟨(.seq (.ops [⟨(some 3), none, .move (.const (.bool false))⟩])
  (.seq (.ops [⟨(some 4), none, .move (.tmp 0)⟩, ⟨(some 5), none, .fieldAddr 2 (.tmp 1)⟩, ⟨(some 6), none, .load 1 false (.tmp 5)⟩, ⟨(some 7), none, .bin .lss none (.tmp 4) (.tmp 6)⟩, ⟨(some 3), none, .move (.tmp 7)⟩])
  .ret)), [(3, none)]⟩
/-- headword/headwordref10.thin -/
def ir81 : IF := ⟨(.seq (.ops [⟨(some 2), none, .box (.tmp 0)⟩, ⟨(some 4), none, .move (.const (.bool false))⟩])
  (.seq (.seq (.ops [⟨(some 5), none, .move (.const (.int .i64 0))⟩])
  (.block 0 (.loop true [1, 2, 5] (.seq (.seq (.ops [⟨(some 6), none, .move (.tmp 5)⟩, ⟨(some 7), none, .move (.tmp 1)⟩, ⟨(some 8), none, .len (.tmp 7)⟩, ⟨(some 9), none, .bin .lss none (.tmp 6) (.tmp 8)⟩])
      (.cond (.tmp 9) .skip
      (.exit 0)))
      (.seq (.block 1 (.seq (.ops [⟨(some 12), none, .load 3 true (.tmp 2)⟩, ⟨(some 13), none, .move (.tmp 1)⟩, ⟨(some 14), none, .move (.tmp 5)⟩, ⟨(some 15), none, .call true 73 [(.tmp 13), (.tmp 14)]⟩, ⟨(some 16), none, .move (.tmp 1)⟩, ⟨(some 17), none, .move (.tmp 5)⟩, ⟨(some 18), none, .indexS 1 (.tmp 16) (.tmp 17)⟩, ⟨(some 19), none, .load 1 false (.tmp 18)⟩, ⟨(some 20), none, .call true 72 [(.tmp 12), (.tmp 15), (.tmp 19)]⟩, ⟨(some 21), none, .fieldAddr 2 (.tmp 2)⟩, ⟨(some 22), none, .load 1 false (.tmp 21)⟩, ⟨(some 23), none, .bin .lss none (.tmp 20) (.tmp 22)⟩])
        (.cond (.tmp 23) (.seq (.ops [⟨(some 4), none, .move (.const (.bool true))⟩])
          .ret)
        .skip)))
      (.ops [⟨(some 10), none, .move (.tmp 5)⟩, ⟨(some 11), none, .bin .add none (.tmp 10) (.const (.int .i64 1))⟩, ⟨(some 5), none, .move (.tmp 11)⟩]))))))
  (.seq (.ops [⟨(some 4), none, .move (.const (.bool false))⟩])
  .ret))), [(4, none)]⟩
/-- (headword/volume.lines).filled -/
def ir82 : IF := ⟨(.seq (.ops [⟨(some 4), none, .move (.const (.slice none 0 0))⟩])
  (.seq (.ops [⟨(some 5), none, .move (.const (.slice none 0 0))⟩])
  (.seq (.ops [⟨(some 6), none, .move (.const (.int .i64 0))⟩])
  (.seq (.seq (.ops [⟨(some 7), none, .move (.const (.int .i64 1))⟩])
  (.block 0 (.loop true [0, 1, 5, 6, 7] (.seq (.seq (.ops [⟨(some 8), none, .move (.tmp 7)⟩, ⟨(some 9), none, .move (.tmp 0)⟩, ⟨(some 10), none, .len (.tmp 9)⟩, ⟨(some 11), none, .bin .lss none (.tmp 8) (.tmp 10)⟩])
      (.cond (.tmp 11) .skip
      (.exit 0)))
      (.seq (.block 1 (.seq (.seq (.ops [⟨(some 14), none, .move (.tmp 0)⟩, ⟨(some 15), none, .move (.tmp 7)⟩, ⟨(some 16), none, .bin .sub none (.tmp 15) (.const (.int .i64 1))⟩, ⟨(some 17), none, .move (.tmp 7)⟩, ⟨(some 18), none, .call true 76 [(.tmp 14), (.tmp 16), (.tmp 17)]⟩, ⟨(some 19), none, .move (.tmp 1)⟩, ⟨(some 20), none, .bin .gtr none (.tmp 18) (.tmp 19)⟩])
        (.cond (.tmp 20) (.seq (.ops [⟨(some 4), none, .move (.const (.slice none 0 0))⟩])
          .ret)
        .skip))
        (.seq (.ops [⟨(some 21), none, .move (.tmp 0)⟩, ⟨(some 22), none, .move (.tmp 6)⟩, ⟨(some 23), none, .move (.tmp 7)⟩, ⟨(some 24), none, .call true 76 [(.tmp 21), (.tmp 22), (.tmp 23)]⟩, ⟨(some 25), none, .move (.tmp 1)⟩, ⟨(some 26), none, .bin .gtr none (.tmp 24) (.tmp 25)⟩])
        (.cond (.tmp 26) (.seq (.ops [⟨(some 27), none, .move (.tmp 7)⟩, ⟨(some 28), none, .bin .sub none (.tmp 27) (.const (.int .i64 1))⟩, ⟨(some 6), none, .move (.tmp 28)⟩])
          (.ops [⟨(some 29), none, .move (.tmp 5)⟩, ⟨(some 30), none, .move (.tmp 6)⟩, ⟨(some 31), none, .lit 1 false (.v (.int .i64 0)) 1 [(0, (.tmp 30))]⟩, ⟨(some 32), none, .append 1 true (.tmp 29) (.tmp 31)⟩, ⟨(some 5), none, .move (.tmp 32)⟩]))
        .skip))))
      (.ops [⟨(some 12), none, .move (.tmp 7)⟩, ⟨(some 13), none, .bin .add none (.tmp 12) (.const (.int .i64 1))⟩, ⟨(some 7), none, .move (.tmp 13)⟩]))))))
  (.seq (.ops [⟨(some 33), none, .move (.tmp 5)⟩, ⟨(some 34), none, .move (.tmp 0)⟩, ⟨(some 35), none, .len (.tmp 34)⟩, ⟨(some 36), none, .bin .sub none (.tmp 35) (.const (.int .i64 1))⟩, ⟨(some 37), none, .lit 1 false (.v (.int .i64 0)) 1 [(0, (.tmp 36))]⟩, ⟨(some 38), none, .append 1 true (.tmp 33) (.tmp 37)⟩, ⟨(some 4), none, .move (.tmp 38)⟩])
  .ret))))), [(4, none)]⟩
/-- headword/headwordref10.good -/
def ir83 : IF := ⟨(.seq (.ops [⟨(some 2), none, .box (.tmp 0)⟩, ⟨(some 4), none, .move (.const (.slice none 0 0))⟩])
  (.seq (.ops [⟨(some 5), none, .move (.const (.slice none 0 0))⟩])
  (.seq (.ops [⟨(some 8), none, .fieldAddr 0 (.tmp 2)⟩, ⟨(some 9), none, .load 1 false (.tmp 8)⟩, ⟨(some 10), none, .len (.tmp 9)⟩, ⟨(some 11), none, .call true 84 [(.tmp 10), (.const (.slice none 0 0))]⟩, ⟨(some 6), none, .move (.tmp 11)⟩])
  (.seq (.seq (.ops [⟨(some 7), none, .move (.const (.int .i64 0))⟩])
  (.block 0 (.loop true [1, 2, 5, 6, 7] (.seq (.seq (.ops [⟨(some 12), none, .move (.tmp 7)⟩, ⟨(some 13), none, .move (.tmp 6)⟩, ⟨(some 14), none, .len (.tmp 13)⟩, ⟨(some 15), none, .bin .lss none (.tmp 12) (.tmp 14)⟩])
      (.cond (.tmp 15) .skip
      (.exit 0)))
      (.seq (.block 1 (.seq (.ops [⟨(some 18), none, .load 3 true (.tmp 2)⟩, ⟨(some 19), none, .move (.tmp 6)⟩, ⟨(some 20), none, .move (.tmp 7)⟩, ⟨(some 21), none, .indexS 1 (.tmp 19) (.tmp 20)⟩, ⟨(some 22), none, .load 1 false (.tmp 21)⟩, ⟨(some 23), none, .call true 70 [(.tmp 18), (.tmp 22)]⟩, ⟨(some 24), none, .move (.tmp 6)⟩, ⟨(some 25), none, .move (.tmp 7)⟩, ⟨(some 26), none, .indexS 1 (.tmp 24) (.tmp 25)⟩, ⟨(some 27), none, .load 1 false (.tmp 26)⟩, ⟨(some 28), none, .len (.tmp 27)⟩, ⟨(some 29), none, .bin .eql none (.tmp 23) (.tmp 28)⟩, ⟨(some 30), none, .move (.tmp 29)⟩, ⟨(some 31), (some (30, true)), .move (.tmp 1)⟩, ⟨(some 32), (some (30, true)), .not (.tmp 31)⟩, ⟨(some 33), (some (30, true)), .move (.tmp 32)⟩, ⟨(some 34), (some (33, false)), .load 3 true (.tmp 2)⟩, ⟨(some 35), (some (33, false)), .move (.tmp 6)⟩, ⟨(some 36), (some (33, false)), .move (.tmp 7)⟩, ⟨(some 37), (some (33, false)), .indexS 1 (.tmp 35) (.tmp 36)⟩, ⟨(some 38), (some (33, false)), .load 1 false (.tmp 37)⟩, ⟨(some 39), (some (33, false)), .call true 81 [(.tmp 34), (.tmp 38)]⟩, ⟨(some 40), (some (33, false)), .not (.tmp 39)⟩, ⟨(some 41), (some (30, true)), .pick (.tmp 33) (.const (.bool true)) (.tmp 40)⟩, ⟨(some 42), none, .pick (.tmp 30) (.tmp 41) (.const (.bool false))⟩])
        (.cond (.tmp 42) (.ops [⟨(some 43), none, .move (.tmp 5)⟩, ⟨(some 44), none, .move (.tmp 6)⟩, ⟨(some 45), none, .move (.tmp 7)⟩, ⟨(some 46), none, .indexS 1 (.tmp 44) (.tmp 45)⟩, ⟨(some 47), none, .load 1 false (.tmp 46)⟩, ⟨(some 48), none, .lit 1 false (.v (.slice none 0 0)) 1 [(0, (.tmp 47))]⟩, ⟨(some 49), none, .append 1 true (.tmp 43) (.tmp 48)⟩, ⟨(some 5), none, .move (.tmp 49)⟩])
        .skip)))
      (.ops [⟨(some 16), none, .move (.tmp 7)⟩, ⟨(some 17), none, .bin .add none (.tmp 16) (.const (.int .i64 1))⟩, ⟨(some 7), none, .move (.tmp 17)⟩]))))))
  (.seq (.ops [⟨(some 50), none, .move (.tmp 5)⟩, ⟨(some 4), none, .move (.tmp 50)⟩])
  .ret))))), [(4, none)]⟩
/-- headword/headwordref10.cuts -/
def ir84 : IF := ⟨(.seq (.ops [⟨(some 4), none, .move (.const (.slice none 0 0))⟩])
  (.seq (.ops [⟨(some 5), none, .move (.const (.int .i64 1))⟩])
  (.seq (.seq (.ops [⟨(some 8), none, .move (.tmp 1)⟩, ⟨(some 9), none, .len (.tmp 8)⟩, ⟨(some 10), none, .bin .gtr none (.tmp 9) (.const (.int .i64 0))⟩])
  (.cond (.tmp 10) (.ops [⟨(some 11), none, .move (.tmp 1)⟩, ⟨(some 12), none, .move (.tmp 1)⟩, ⟨(some 13), none, .len (.tmp 12)⟩, ⟨(some 14), none, .bin .sub none (.tmp 13) (.const (.int .i64 1))⟩, ⟨(some 15), none, .indexS 1 (.tmp 11) (.tmp 14)⟩, ⟨(some 16), none, .load 1 false (.tmp 15)⟩, ⟨(some 17), none, .bin .add none (.tmp 16) (.const (.int .i64 1))⟩, ⟨(some 5), none, .move (.tmp 17)⟩])
  .skip))
  (.seq (.seq (.ops [⟨(some 18), none, .move (.tmp 5)⟩, ⟨(some 19), none, .move (.tmp 0)⟩, ⟨(some 20), none, .bin .gtr none (.tmp 18) (.tmp 19)⟩])
  (.cond (.tmp 20) (.seq (.ops [⟨(some 21), none, .move (.tmp 1)⟩, ⟨(some 22), none, .lit 1 false (.v (.slice none 0 0)) 1 [(0, (.tmp 21))]⟩, ⟨(some 4), none, .move (.tmp 22)⟩])
    .ret)
  .skip))
  (.seq (.ops [⟨(some 6), none, .move (.const (.slice none 0 0))⟩])
  (.seq (.seq (.ops [⟨(some 23), none, .move (.tmp 5)⟩, ⟨(some 7), none, .move (.tmp 23)⟩])
  (.block 0 (.loop true [0, 1, 6, 7] (.seq (.seq (.ops [⟨(some 24), none, .move (.tmp 7)⟩, ⟨(some 25), none, .move (.tmp 0)⟩, ⟨(some 26), none, .bin .leq none (.tmp 24) (.tmp 25)⟩])
      (.cond (.tmp 26) .skip
      (.exit 0)))
      (.seq (.block 1 (.ops [⟨(some 29), none, .move (.tmp 6)⟩, ⟨(some 30), none, .move (.tmp 0)⟩, ⟨(some 31), none, .lit 1 false (.v (.int .i64 0)) 0 []⟩, ⟨(some 32), none, .move (.tmp 1)⟩, ⟨(some 33), none, .append 1 true (.tmp 31) (.tmp 32)⟩, ⟨(some 34), none, .move (.tmp 7)⟩, ⟨(some 35), none, .lit 1 false (.v (.int .i64 0)) 1 [(0, (.tmp 34))]⟩, ⟨(some 36), none, .append 1 true (.tmp 33) (.tmp 35)⟩, ⟨(some 37), none, .call true 84 [(.tmp 30), (.tmp 36)]⟩, ⟨(some 38), none, .append 1 true (.tmp 29) (.tmp 37)⟩, ⟨(some 6), none, .move (.tmp 38)⟩]))
      (.ops [⟨(some 27), none, .move (.tmp 7)⟩, ⟨(some 28), none, .bin .add none (.tmp 27) (.const (.int .i64 1))⟩, ⟨(some 7), none, .move (.tmp 28)⟩]))))))
  (.seq (.ops [⟨(some 39), none, .move (.tmp 6)⟩, ⟨(some 4), none, .move (.tmp 39)⟩])
  .ret))))))), [(4, none)]⟩
/-- headword/headwordref10.row -/
def ir85 : IF := ⟨(.seq (.ops [⟨(some 2), none, .box (.tmp 0)⟩, ⟨(some 4), none, .move (.const (.slice none 0 0))⟩])
  (.seq (.ops [⟨(some 5), none, .move (.const (.slice none 0 0))⟩])
  (.seq (.seq (.ops [⟨(some 9), none, .move (.tmp 1)⟩, ⟨(some 6), none, .move (.tmp 9)⟩])
  (.block 0 (.loop true [2, 5, 6] (.seq (.seq (.ops [⟨(some 10), none, .move (.tmp 6)⟩, ⟨(some 11), none, .fieldAddr 0 (.tmp 2)⟩, ⟨(some 12), none, .load 1 false (.tmp 11)⟩, ⟨(some 13), none, .len (.tmp 12)⟩, ⟨(some 14), none, .bin .lss none (.tmp 10) (.tmp 13)⟩])
      (.cond (.tmp 14) .skip
      (.exit 0)))
      (.seq (.block 1 (.seq (.ops [⟨(some 17), none, .move (.tmp 6)⟩, ⟨(some 18), none, .bin .add none (.tmp 17) (.const (.int .i64 1))⟩, ⟨(some 7), none, .move (.tmp 18)⟩])
        (.block 2 (.loop true [2, 5, 6, 7] (.seq (.seq (.ops [⟨(some 19), none, .move (.tmp 7)⟩, ⟨(some 20), none, .fieldAddr 0 (.tmp 2)⟩, ⟨(some 21), none, .load 1 false (.tmp 20)⟩, ⟨(some 22), none, .len (.tmp 21)⟩, ⟨(some 23), none, .bin .lss none (.tmp 19) (.tmp 22)⟩])
            (.cond (.tmp 23) .skip
            (.exit 2)))
            (.seq (.block 3 (.seq (.seq (.ops [⟨(some 26), none, .load 3 true (.tmp 2)⟩, ⟨(some 27), none, .move (.tmp 6)⟩, ⟨(some 28), none, .move (.tmp 7)⟩, ⟨(some 29), none, .build [(.v (.int .i64 0)), (.v (.int .i64 0))] [(0, 1, (.tmp 27)), (1, 1, (.tmp 28))]⟩, ⟨(some 30), none, .call true 86 [(.tmp 26), (.tmp 29)]⟩, ⟨(some 31), none, .not (.tmp 30)⟩])
              (.cond (.tmp 31) (.exit 3)
              .skip))
              (.seq (.ops [⟨(some 32), none, .load 3 true (.tmp 2)⟩, ⟨(some 33), none, .move (.tmp 7)⟩, ⟨(some 34), none, .call true 85 [(.tmp 32), (.tmp 33)]⟩, ⟨(some 8), none, .move (.tmp 34)⟩])
              (.seq (.seq (.ops [⟨(some 35), none, .move (.tmp 8)⟩, ⟨(some 36), none, .len (.tmp 35)⟩, ⟨(some 37), none, .bin .add none (.tmp 36) (.const (.int .i64 1))⟩, ⟨(some 38), none, .move (.tmp 5)⟩, ⟨(some 39), none, .len (.tmp 38)⟩, ⟨(some 40), none, .bin .gtr none (.tmp 37) (.tmp 39)⟩])
              (.cond (.tmp 40) (.ops [⟨(some 41), none, .move (.tmp 6)⟩, ⟨(some 42), none, .move (.tmp 7)⟩, ⟨(some 43), none, .build [(.v (.int .i64 0)), (.v (.int .i64 0))] [(0, 1, (.tmp 41)), (1, 1, (.tmp 42))]⟩, ⟨(some 44), none, .lit 2 true (.agg [(.v (.int .i64 0)), (.v (.int .i64 0))]) 1 [(0, (.tmp 43))]⟩, ⟨(some 45), none, .move (.tmp 8)⟩, ⟨(some 46), none, .append 2 true (.tmp 44) (.tmp 45)⟩, ⟨(some 5), none, .move (.tmp 46)⟩])
              .skip))
              (.exit 2)))))
            (.ops [⟨(some 24), none, .move (.tmp 7)⟩, ⟨(some 25), none, .bin .add none (.tmp 24) (.const (.int .i64 1))⟩, ⟨(some 7), none, .move (.tmp 25)⟩])))))))
      (.ops [⟨(some 15), none, .move (.tmp 6)⟩, ⟨(some 16), none, .bin .add none (.tmp 15) (.const (.int .i64 1))⟩, ⟨(some 6), none, .move (.tmp 16)⟩]))))))
  (.seq (.ops [⟨(some 47), none, .move (.tmp 5)⟩, ⟨(some 4), none, .move (.tmp 47)⟩])
  .ret)))), [(4, none)]⟩
/-- headword/headwordref10.stretch -/
def ir86 : IF := ⟨(.seq (.ops [⟨(some 2), none, .box (.tmp 0)⟩, ⟨(some 3), none, .box (.tmp 1)⟩, ⟨(some 4), none, .move (.const (.bool false))⟩])
  (.seq (.ops [⟨(some 5), none, .indexA 2 1 (.tmp 3) (.const (.int .i64 0))⟩, ⟨(some 6), none, .load 1 false (.tmp 5)⟩, ⟨(some 7), none, .indexA 2 1 (.tmp 3) (.const (.int .i64 1))⟩, ⟨(some 8), none, .load 1 false (.tmp 7)⟩, ⟨(some 9), none, .bin .lss none (.tmp 6) (.tmp 8)⟩, ⟨(some 10), none, .move (.tmp 9)⟩, ⟨(some 11), (some (10, true)), .load 3 true (.tmp 2)⟩, ⟨(some 12), (some (10, true)), .indexA 2 1 (.tmp 3) (.const (.int .i64 0))⟩, ⟨(some 13), (some (10, true)), .load 1 false (.tmp 12)⟩, ⟨(some 14), (some (10, true)), .indexA 2 1 (.tmp 3) (.const (.int .i64 1))⟩, ⟨(some 15), (some (10, true)), .load 1 false (.tmp 14)⟩, ⟨(some 16), (some (10, true)), .bin .add none (.tmp 15) (.const (.int .i64 1))⟩, ⟨(some 17), (some (10, true)), .call true 78 [(.tmp 11), (.tmp 13), (.tmp 16)]⟩, ⟨(some 18), (some (10, true)), .fieldAddr 1 (.tmp 2)⟩, ⟨(some 19), (some (10, true)), .load 1 false (.tmp 18)⟩, ⟨(some 20), (some (10, true)), .bin .gtr none (.tmp 17) (.tmp 19)⟩, ⟨(some 21), none, .pick (.tmp 10) (.tmp 20) (.const (.bool false))⟩, ⟨(some 4), none, .move (.tmp 21)⟩])
  .ret)), [(4, none)]⟩
/-- (headword/volume.Book).plans -/
def ir87 : IF := ⟨(.seq (.ops [⟨(some 1), none, .box (.tmp 0)⟩, ⟨(some 2), none, .move (.const (.slice none 0 0))⟩])
  (.seq (.ops [⟨(some 13), none, .load 3 true (.tmp 1)⟩, ⟨(some 14), none, .call true 75 [(.tmp 13), (.func 68)]⟩, ⟨(some 15), none, .load 3 true (.tmp 1)⟩, ⟨(some 16), none, .call true 75 [(.tmp 15), (.func 71)]⟩, ⟨(some 3), none, .move (.tmp 14)⟩, ⟨(some 4), none, .move (.tmp 16)⟩])
  (.seq (.ops [⟨(some 17), none, .fieldAddr 0 (.tmp 1)⟩, ⟨(some 18), none, .load 1 false (.tmp 17)⟩, ⟨(some 19), none, .len (.tmp 18)⟩, ⟨(some 5), none, .move (.tmp 19)⟩])
  (.seq (.ops [⟨(some 20), none, .move (.tmp 5)⟩, ⟨(some 21), none, .bin .add none (.tmp 20) (.const (.int .i64 1))⟩, ⟨(some 22), none, .make 1 false [(.v .nilIface)] (.tmp 21) (.tmp 21)⟩, ⟨(some 6), none, .move (.tmp 22)⟩])
  (.seq (.ops [⟨(some 23), none, .move (.tmp 6)⟩, ⟨(some 24), none, .move (.tmp 5)⟩, ⟨(some 25), none, .build [(.v (.int .i64 0)), (.v (.int .i64 0)), (.v (.int .i64 0))] [(2, 1, (.const (.int .i64 1)))]⟩, ⟨(some 26), none, .iface 118 (.tmp 25)⟩, ⟨(some 27), none, .indexS 1 (.tmp 23) (.tmp 24)⟩, ⟨none, none, .store 1 (.tmp 27) (.tmp 26)⟩])
  (.seq (.seq (.ops [⟨(some 28), none, .move (.tmp 5)⟩, ⟨(some 29), none, .bin .sub none (.tmp 28) (.const (.int .i64 1))⟩, ⟨(some 7), none, .move (.tmp 29)⟩])
  (.block 0 (.loop true [1, 3, 4, 5, 6, 7] (.seq (.seq (.ops [⟨(some 30), none, .move (.tmp 7)⟩, ⟨(some 31), none, .bin .geq none (.tmp 30) (.const (.int .i64 0))⟩])
      (.cond (.tmp 31) .skip
      (.exit 0)))
      (.seq (.block 1 (.seq (.ops [⟨(some 34), none, .move (.tmp 5)⟩, ⟨(some 8), none, .move (.tmp 34)⟩])
        (.block 2 (.loop true [1, 3, 4, 5, 6, 7, 8] (.seq (.seq (.ops [⟨(some 35), none, .move (.tmp 8)⟩, ⟨(some 36), none, .move (.tmp 7)⟩, ⟨(some 37), none, .bin .gtr none (.tmp 35) (.tmp 36)⟩])
            (.cond (.tmp 37) .skip
            (.exit 2)))
            (.seq (.block 3 (.seq (.seq (.ops [⟨(some 40), none, .move (.tmp 3)⟩, ⟨(some 41), none, .move (.tmp 7)⟩, ⟨(some 42), none, .move (.tmp 8)⟩, ⟨(some 43), none, .call true 76 [(.tmp 40), (.tmp 41), (.tmp 42)]⟩, ⟨(some 44), none, .fieldAddr 1 (.tmp 1)⟩, ⟨(some 45), none, .load 1 false (.tmp 44)⟩, ⟨(some 46), none, .bin .gtr none (.tmp 43) (.tmp 45)⟩, ⟨(some 47), none, .move (.tmp 46)⟩, ⟨(some 48), (some (47, false)), .move (.tmp 4)⟩, ⟨(some 49), (some (47, false)), .move (.tmp 7)⟩, ⟨(some 50), (some (47, false)), .move (.tmp 8)⟩, ⟨(some 51), (some (47, false)), .call true 76 [(.tmp 48), (.tmp 49), (.tmp 50)]⟩, ⟨(some 52), (some (47, false)), .fieldAddr 2 (.tmp 1)⟩, ⟨(some 53), (some (47, false)), .load 1 false (.tmp 52)⟩, ⟨(some 54), (some (47, false)), .bin .lss none (.tmp 51) (.tmp 53)⟩, ⟨(some 55), none, .pick (.tmp 47) (.const (.bool true)) (.tmp 54)⟩])
              (.cond (.tmp 55) (.exit 3)
              .skip))
              (.seq (.ops [⟨(some 57), none, .move (.tmp 6)⟩, ⟨(some 58), none, .move (.tmp 8)⟩, ⟨(some 59), none, .indexS 1 (.tmp 57) (.tmp 58)⟩, ⟨(some 60), none, .load 1 false (.tmp 59)⟩, ⟨(some 61), none, .assert 118 (.agg [(.v (.int .i64 0)), (.v (.int .i64 0)), (.v (.int .i64 0))]) true (.tmp 60)⟩, ⟨(some 56), none, .move (.tmp 61)⟩, ⟨(some 62), none, .extract 0 (.tmp 56)⟩, ⟨(some 63), none, .extract 1 (.tmp 56)⟩, ⟨(some 9), none, .alloc [(.v (.int .i64 0)), (.v (.int .i64 0)), (.v (.int .i64 0))]⟩, ⟨none, none, .store 3 (.tmp 9) (.tmp 62)⟩, ⟨(some 10), none, .move (.tmp 63)⟩])
              (.seq (.seq (.ops [⟨(some 64), none, .move (.tmp 10)⟩, ⟨(some 65), none, .not (.tmp 64)⟩])
              (.cond (.tmp 65) (.exit 3)
              .skip))
              (.seq (.ops [⟨(some 67), none, .move (.tmp 6)⟩, ⟨(some 68), none, .move (.tmp 7)⟩, ⟨(some 69), none, .indexS 1 (.tmp 67) (.tmp 68)⟩, ⟨(some 70), none, .load 1 false (.tmp 69)⟩, ⟨(some 71), none, .assert 118 (.agg [(.v (.int .i64 0)), (.v (.int .i64 0)), (.v (.int .i64 0))]) true (.tmp 70)⟩, ⟨(some 66), none, .move (.tmp 71)⟩, ⟨(some 72), none, .extract 0 (.tmp 66)⟩, ⟨(some 73), none, .extract 1 (.tmp 66)⟩, ⟨(some 11), none, .alloc [(.v (.int .i64 0)), (.v (.int .i64 0)), (.v (.int .i64 0))]⟩, ⟨none, none, .store 3 (.tmp 11) (.tmp 72)⟩, ⟨(some 12), none, .move (.tmp 73)⟩])
              (.seq (.ops [⟨(some 74), none, .fieldAddr 2 (.tmp 11)⟩, ⟨(some 75), none, .load 1 false (.tmp 74)⟩, ⟨(some 76), none, .fieldAddr 2 (.tmp 9)⟩, ⟨(some 77), none, .load 1 false (.tmp 76)⟩, ⟨(some 78), none, .bin .add none (.tmp 75) (.tmp 77)⟩, ⟨(some 79), none, .fieldAddr 2 (.tmp 11)⟩, ⟨none, none, .store 1 (.tmp 79) (.tmp 78)⟩])
              (.seq (.seq (.ops [⟨(some 80), none, .move (.tmp 12)⟩, ⟨(some 81), none, .not (.tmp 80)⟩, ⟨(some 82), none, .move (.tmp 81)⟩, ⟨(some 83), (some (82, false)), .fieldAddr 0 (.tmp 9)⟩, ⟨(some 84), (some (82, false)), .load 1 false (.tmp 83)⟩, ⟨(some 85), (some (82, false)), .bin .add none (.tmp 84) (.const (.int .i64 1))⟩, ⟨(some 86), (some (82, false)), .fieldAddr 0 (.tmp 11)⟩, ⟨(some 87), (some (82, false)), .load 1 false (.tmp 86)⟩, ⟨(some 88), (some (82, false)), .bin .leq none (.tmp 85) (.tmp 87)⟩, ⟨(some 89), none, .pick (.tmp 82) (.const (.bool true)) (.tmp 88)⟩])
              (.cond (.tmp 89) (.ops [⟨(some 90), none, .fieldAddr 0 (.tmp 9)⟩, ⟨(some 91), none, .load 1 false (.tmp 90)⟩, ⟨(some 92), none, .bin .add none (.tmp 91) (.const (.int .i64 1))⟩, ⟨(some 93), none, .move (.tmp 8)⟩, ⟨(some 94), none, .fieldAddr 0 (.tmp 11)⟩, ⟨none, none, .store 1 (.tmp 94) (.tmp 92)⟩, ⟨(some 95), none, .fieldAddr 1 (.tmp 11)⟩, ⟨none, none, .store 1 (.tmp 95) (.tmp 93)⟩])
              .skip))
              (.ops [⟨(some 96), none, .move (.tmp 6)⟩, ⟨(some 97), none, .move (.tmp 7)⟩, ⟨(some 98), none, .load 3 true (.tmp 11)⟩, ⟨(some 99), none, .iface 118 (.tmp 98)⟩, ⟨(some 100), none, .indexS 1 (.tmp 96) (.tmp 97)⟩, ⟨none, none, .store 1 (.tmp 100) (.tmp 99)⟩]))))))))
            (.ops [⟨(some 38), none, .move (.tmp 8)⟩, ⟨(some 39), none, .bin .sub none (.tmp 38) (.const (.int .i64 1))⟩, ⟨(some 8), none, .move (.tmp 39)⟩])))))))
      (.ops [⟨(some 32), none, .move (.tmp 7)⟩, ⟨(some 33), none, .bin .sub none (.tmp 32) (.const (.int .i64 1))⟩, ⟨(some 7), none, .move (.tmp 33)⟩]))))))
  (.seq (.ops [⟨(some 101), none, .move (.tmp 6)⟩, ⟨(some 2), none, .move (.tmp 101)⟩])
  .ret))))))), [(2, none)]⟩
/-- headword/headwordlaw10.cuts$1 -/
def ir88 : IF := ⟨(.seq (.seq (.ops [⟨(some 8), none, .move (.tmp 1)⟩, ⟨(some 9), none, .load 1 false (.tmp 2)⟩, ⟨(some 10), none, .bin .eql none (.tmp 8) (.tmp 9)⟩])
  (.cond (.tmp 10) (.seq (.ops [⟨(some 11), none, .load 1 false (.tmp 3)⟩, ⟨(some 12), none, .move (.tmp 0)⟩, ⟨(some 13), none, .callv false (.tmp 11) [(.tmp 12)]⟩])
    .ret)
  .skip))
  (.seq (.ops [⟨(some 14), none, .move (.tmp 1)⟩, ⟨(some 15), none, .bin .add none (.tmp 14) (.const (.int .i64 1))⟩, ⟨(some 7), none, .move (.tmp 15)⟩])
  (.block 0 (.loop false [0, 2, 4, 7] (.seq (.seq (.ops [⟨(some 16), none, .move (.tmp 7)⟩, ⟨(some 17), none, .load 1 false (.tmp 2)⟩, ⟨(some 18), none, .bin .leq none (.tmp 16) (.tmp 17)⟩])
      (.cond (.tmp 18) .skip
      (.exit 0)))
      (.seq (.block 1 (.ops [⟨(some 21), none, .load 1 false (.tmp 4)⟩, ⟨(some 22), none, .move (.tmp 0)⟩, ⟨(some 23), none, .move (.tmp 0)⟩, ⟨(some 24), none, .len (.tmp 23)⟩, ⟨(some 25), none, .move (.tmp 0)⟩, ⟨(some 26), none, .len (.tmp 25)⟩, ⟨(some 27), none, .slice 1 (.tmp 22) none (some (.tmp 24)) (some (.tmp 26))⟩, ⟨(some 28), none, .move (.tmp 7)⟩, ⟨(some 29), none, .lit 1 false (.v (.int .i64 0)) 1 [(0, (.tmp 28))]⟩, ⟨(some 30), none, .append 1 false (.tmp 27) (.tmp 29)⟩, ⟨(some 31), none, .move (.tmp 7)⟩, ⟨(some 32), none, .callv false (.tmp 21) [(.tmp 30), (.tmp 31)]⟩]))
      (.ops [⟨(some 19), none, .move (.tmp 7)⟩, ⟨(some 20), none, .bin .add none (.tmp 19) (.const (.int .i64 1))⟩, ⟨(some 7), none, .move (.tmp 20)⟩]))))))), []⟩
/-- headword/headwordlaw10.least -/
def ir89 : IF := ⟨(.seq (.ops [⟨(some 3), none, .box (.tmp 0)⟩, ⟨(some 6), none, .move (.const (.int .i64 0))⟩])
  (.seq (.ops [⟨(some 7), none, .move (.const (.int .i64 0))⟩])
  (.seq (.seq (.ops [⟨(some 10), none, .fieldAddr 0 (.tmp 3)⟩, ⟨(some 11), none, .load 1 false (.tmp 10)⟩, ⟨(some 12), none, .move (.tmp 1)⟩, ⟨(some 13), none, .move (.tmp 2)⟩, ⟨(some 14), none, .slice 2 (.tmp 11) (some (.tmp 12)) (some (.tmp 13)) none⟩, ⟨(some 15), none, .len (.tmp 14)⟩, ⟨(some 16), none, .move (.const (.int .i64 0))⟩])
  (.block 0 (.loop true [7, 14, 15, 16] (.seq (.ops [⟨(some 17), none, .bin .lss none (.tmp 16) (.tmp 15)⟩])
      (.seq (.cond (.tmp 17) .skip
      (.exit 0))
      (.seq (.block 1 (.seq (.ops [⟨(some 18), none, .indexS 2 (.tmp 14) (.tmp 16)⟩, ⟨(some 19), none, .load 2 true (.tmp 18)⟩, ⟨(some 9), none, .alloc [(.v (.int .i64 0)), (.v (.int .i64 0))]⟩, ⟨none, none, .store 2 (.tmp 9) (.tmp 19)⟩])
        (.ops [⟨(some 20), none, .move (.tmp 7)⟩, ⟨(some 21), none, .fieldAddr 0 (.tmp 9)⟩, ⟨(some 22), none, .load 1 false (.tmp 21)⟩, ⟨(some 23), none, .bin .add none (.tmp 20) (.tmp 22)⟩, ⟨(some 7), none, .move (.tmp 23)⟩])))
      (.ops [⟨(some 24), none, .bin .add none (.tmp 16) (.const (.int .i64 1))⟩, ⟨(some 16), none, .move (.tmp 24)⟩])))))))
  (.seq (.ops [⟨(some 25), none, .move (.tmp 7)⟩, ⟨(some 6), none, .move (.tmp 25)⟩])
  .ret)))), [(6, none)]⟩
end Go.Proofs.Ytiifibgadipalaa.Vm
