/- What stands here: functions of this program in the form that the evaluator runs. No condition: a later text proves that they are what the program holds. -/
import Derived.Test.YtdnjagnechibhaaGreatDoorEv3
set_option linter.all false
namespace Go.Proofs.YtdnjagnechibhaaGreatDoor.Vm
open Go Go.Ev
set_option maxRecDepth 100000
/-- headword/headwordtop.TopTurnedPile -/
def lp5_0 : IC := (.seq (.ops [⟨(some 74), none, .bin .lss none (.tmp 73) (.tmp 72)⟩])
  (.seq (.cond (.tmp 74) .skip
  (.exit 0))
  (.seq (.block 1 (.seq (.ops [⟨(some 75), none, .indexS 1 (.tmp 71) (.tmp 73)⟩, ⟨(some 76), none, .load 1 false (.tmp 75)⟩, ⟨(some 17), none, .move (.tmp 76)⟩])
    (.ops [⟨(some 77), none, .move (.tmp 15)⟩, ⟨(some 78), none, .move (.tmp 17)⟩, ⟨(some 79), none, .bin .sub none (.const (.int .i64 3)) (.tmp 78)⟩, ⟨(some 80), none, .lit 1 false (.v (.int .i64 0)) 1 [(0, (.tmp 79))]⟩, ⟨(some 81), none, .append 1 true (.tmp 77) (.tmp 80)⟩, ⟨(some 15), none, .move (.tmp 81)⟩])))
  (.ops [⟨(some 82), none, .bin .add none (.tmp 73) (.const (.int .i64 1))⟩, ⟨(some 73), none, .move (.tmp 82)⟩]))))
def ir5 : IF := ⟨(.seq (.ops [⟨(some 5), none, .box (.tmp 2)⟩, ⟨(some 6), none, .move (.const (.bool false))⟩])
  (.seq (.ops [⟨(some 20), none, .move (.tmp 0)⟩, ⟨(some 21), none, .call true 23 [(.const (.int .u8 2)), (.tmp 20), (.const (.int .i64 2))]⟩, ⟨(some 7), none, .move (.tmp 21)⟩])
  (.seq (.ops [⟨(some 22), none, .move (.tmp 1)⟩, ⟨(some 23), none, .conv .i64 (.tmp 22)⟩, ⟨(some 24), none, .bin .rem none (.tmp 23) (.const (.int .i64 50))⟩, ⟨(some 25), none, .bin .add none (.const (.int .i64 1)) (.tmp 24)⟩, ⟨(some 26), none, .load 16 true (.tmp 5)⟩, ⟨(some 27), none, .call true 24 [(.const (.int .i64 4)), (.tmp 25), (.tmp 26)]⟩, ⟨(some 8), none, .move (.tmp 27)⟩])
  (.seq (.ops [⟨(some 29), none, .move (.tmp 7)⟩, ⟨(some 30), none, .call true 25 [(.tmp 29)]⟩, ⟨(some 28), none, .move (.tmp 30)⟩, ⟨(some 31), none, .extract 0 (.tmp 28)⟩, ⟨(some 32), none, .extract 1 (.tmp 28)⟩, ⟨(some 9), none, .move (.tmp 31)⟩, ⟨(some 10), none, .move (.tmp 32)⟩])
  (.seq (.ops [⟨(some 34), none, .lit 1 false (.v (.string ⟨#[]⟩)) 4 [(0, (.const (.string ⟨#[111]⟩))), (1, (.const (.string ⟨#[117]⟩))), (2, (.const (.string ⟨#[117]⟩))), (3, (.const (.string ⟨#[111]⟩)))]⟩, ⟨(some 35), none, .call false 26 [(.tmp 34)]⟩, ⟨(some 36), none, .move (.tmp 7)⟩, ⟨(some 37), none, .call false 27 [(.tmp 35), (.tmp 36)]⟩, ⟨(some 38), none, .call true 25 [(.tmp 37)]⟩, ⟨(some 33), none, .move (.tmp 38)⟩, ⟨(some 39), none, .extract 0 (.tmp 33)⟩, ⟨(some 40), none, .extract 1 (.tmp 33)⟩, ⟨(some 11), none, .move (.tmp 39)⟩, ⟨(some 12), none, .move (.tmp 40)⟩])
  (.seq (.ops [⟨(some 42), none, .move (.tmp 8)⟩, ⟨(some 43), none, .call false 28 [(.tmp 42)]⟩, ⟨(some 41), none, .move (.tmp 43)⟩, ⟨(some 44), none, .extract 0 (.tmp 41)⟩, ⟨(some 45), none, .extract 1 (.tmp 41)⟩, ⟨(some 13), none, .move (.tmp 44)⟩, ⟨(some 14), none, .move (.tmp 45)⟩])
  (.seq (.seq (.ops [⟨(some 46), none, .move (.tmp 10)⟩, ⟨(some 47), none, .bin .neq none (.tmp 46) (.const (.int .i64 0))⟩, ⟨(some 48), none, .move (.tmp 47)⟩, ⟨(some 49), (some (48, false)), .move (.tmp 12)⟩, ⟨(some 50), (some (48, false)), .bin .neq none (.tmp 49) (.const (.int .i64 0))⟩, ⟨(some 51), none, .pick (.tmp 48) (.const (.bool true)) (.tmp 50)⟩, ⟨(some 52), none, .move (.tmp 51)⟩, ⟨(some 53), (some (52, false)), .move (.tmp 14)⟩, ⟨(some 54), (some (52, false)), .bin .neq none (.tmp 53) (.const (.int .i64 0))⟩, ⟨(some 55), none, .pick (.tmp 52) (.const (.bool true)) (.tmp 54)⟩, ⟨(some 56), none, .move (.tmp 55)⟩, ⟨(some 57), (some (56, false)), .move (.tmp 9)⟩, ⟨(some 58), (some (56, false)), .len (.tmp 57)⟩, ⟨(some 59), (some (56, false)), .bin .neq none (.tmp 58) (.const (.int .i64 4))⟩, ⟨(some 60), none, .pick (.tmp 56) (.const (.bool true)) (.tmp 59)⟩, ⟨(some 61), none, .move (.tmp 60)⟩, ⟨(some 62), (some (61, false)), .move (.tmp 11)⟩, ⟨(some 63), (some (61, false)), .len (.tmp 62)⟩, ⟨(some 64), (some (61, false)), .bin .neq none (.tmp 63) (.const (.int .i64 4))⟩, ⟨(some 65), none, .pick (.tmp 61) (.const (.bool true)) (.tmp 64)⟩, ⟨(some 66), none, .move (.tmp 65)⟩, ⟨(some 67), (some (66, false)), .move (.tmp 13)⟩, ⟨(some 68), (some (66, false)), .len (.tmp 67)⟩, ⟨(some 69), (some (66, false)), .bin .neq none (.tmp 68) (.const (.int .i64 4))⟩, ⟨(some 70), none, .pick (.tmp 66) (.const (.bool true)) (.tmp 69)⟩])
  (.cond (.tmp 70) (.seq (.ops [⟨(some 6), none, .move (.const (.bool false))⟩])
    .ret)
  .skip))
  (.seq (.ops [⟨(some 15), none, .move (.const (.slice none 0 0))⟩])
  (.seq (.seq (.ops [⟨(some 71), none, .move (.tmp 11)⟩, ⟨(some 72), none, .len (.tmp 71)⟩, ⟨(some 73), none, .move (.const (.int .i64 0))⟩])
  (.block 0 (.loop true [8, 9, 13, 15, 71, 72, 73] lp5_0)))
  (.seq (.ops [⟨(some 84), none, .move (.tmp 8)⟩, ⟨(some 85), none, .move (.tmp 9)⟩, ⟨(some 86), none, .call true 29 [(.tmp 84), (.tmp 85)]⟩, ⟨(some 83), none, .move (.tmp 86)⟩, ⟨(some 87), none, .extract 0 (.tmp 83)⟩, ⟨(some 88), none, .extract 1 (.tmp 83)⟩, ⟨(some 18), none, .move (.tmp 87)⟩, ⟨(some 10), none, .move (.tmp 88)⟩])
  (.seq (.ops [⟨(some 90), none, .move (.tmp 13)⟩, ⟨(some 91), none, .move (.tmp 15)⟩, ⟨(some 92), none, .call true 29 [(.tmp 90), (.tmp 91)]⟩, ⟨(some 89), none, .move (.tmp 92)⟩, ⟨(some 93), none, .extract 0 (.tmp 89)⟩, ⟨(some 94), none, .extract 1 (.tmp 89)⟩, ⟨(some 19), none, .move (.tmp 93)⟩, ⟨(some 12), none, .move (.tmp 94)⟩])
  (.seq (.ops [⟨(some 95), none, .move (.tmp 10)⟩, ⟨(some 96), none, .bin .eql none (.tmp 95) (.const (.int .i64 0))⟩, ⟨(some 97), none, .move (.tmp 96)⟩, ⟨(some 98), (some (97, true)), .move (.tmp 12)⟩, ⟨(some 99), (some (97, true)), .bin .eql none (.tmp 98) (.const (.int .i64 0))⟩, ⟨(some 100), none, .pick (.tmp 97) (.tmp 99) (.const (.bool false))⟩, ⟨(some 101), none, .move (.tmp 100)⟩, ⟨(some 102), (some (101, true)), .move (.tmp 18)⟩, ⟨(some 103), (some (101, true)), .move (.tmp 19)⟩, ⟨(some 104), (some (101, true)), .bin .eql none (.tmp 102) (.tmp 103)⟩, ⟨(some 105), none, .pick (.tmp 101) (.tmp 104) (.const (.bool false))⟩, ⟨(some 106), none, .move (.tmp 105)⟩, ⟨(some 107), (some (106, true)), .call true 30 []⟩, ⟨(some 108), none, .pick (.tmp 106) (.tmp 107) (.const (.bool false))⟩, ⟨(some 6), none, .move (.tmp 108)⟩])
  .ret)))))))))))), [(6, none)]⟩
/-- headword/headwordtop.same -/
def lp14_0 : IC := (.seq (.ops [⟨(some 14), none, .bin .lss none (.tmp 13) (.tmp 12)⟩])
  (.seq (.cond (.tmp 14) .skip
  (.exit 0))
  (.seq (.block 1 (.seq (.ops [⟨(some 15), none, .move (.tmp 13)⟩, ⟨(some 5), none, .move (.tmp 15)⟩])
    (.seq (.ops [⟨(some 16), none, .move (.tmp 0)⟩, ⟨(some 17), none, .move (.tmp 5)⟩, ⟨(some 18), none, .indexS 1 (.tmp 16) (.tmp 17)⟩, ⟨(some 19), none, .load 1 false (.tmp 18)⟩, ⟨(some 20), none, .move (.tmp 1)⟩, ⟨(some 21), none, .move (.tmp 5)⟩, ⟨(some 22), none, .indexS 1 (.tmp 20) (.tmp 21)⟩, ⟨(some 23), none, .load 1 false (.tmp 22)⟩, ⟨(some 24), none, .bin .neq none (.tmp 19) (.tmp 23)⟩])
    (.cond (.tmp 24) (.seq (.ops [⟨(some 4), none, .move (.const (.bool false))⟩])
      .ret)
    .skip))))
  (.ops [⟨(some 25), none, .bin .add none (.tmp 13) (.const (.int .i64 1))⟩, ⟨(some 13), none, .move (.tmp 25)⟩]))))
def ir14 : IF := ⟨(.seq (.ops [⟨(some 4), none, .move (.const (.bool false))⟩])
  (.seq (.seq (.ops [⟨(some 6), none, .move (.tmp 0)⟩, ⟨(some 7), none, .len (.tmp 6)⟩, ⟨(some 8), none, .move (.tmp 1)⟩, ⟨(some 9), none, .len (.tmp 8)⟩, ⟨(some 10), none, .bin .neq none (.tmp 7) (.tmp 9)⟩])
  (.cond (.tmp 10) (.seq (.ops [⟨(some 4), none, .move (.const (.bool false))⟩])
    .ret)
  .skip))
  (.seq (.seq (.ops [⟨(some 11), none, .move (.tmp 0)⟩, ⟨(some 12), none, .len (.tmp 11)⟩, ⟨(some 13), none, .move (.const (.int .i64 0))⟩])
  (.block 0 (.loop true [0, 1, 12, 13] lp14_0)))
  (.seq (.ops [⟨(some 4), none, .move (.const (.bool true))⟩])
  .ret)))), [(4, none)]⟩
/-- headword/headwordtop.list -/
def ir15 : IF := ⟨(.seq (.ops [⟨(some 2), none, .move (.const (.slice none 0 0))⟩])
  (.seq (.ops [⟨(some 3), none, .move (.tmp 0)⟩, ⟨(some 2), none, .move (.tmp 3)⟩])
  .ret)), [(2, none)]⟩
/-- headword/fact.First -/
def ir17 : IF := ⟨(.seq (.ops [⟨(some 1), none, .box (.tmp 0)⟩, ⟨(some 2), none, .move (.const (.slice none 0 0))⟩, ⟨(some 3), none, .move (.const (.int .i64 0))⟩])
  (.seq (.seq (.ops [⟨(some 7), none, .load 2 true (.tmp 1)⟩, ⟨(some 8), none, .call true 61 [(.tmp 7)]⟩, ⟨(some 4), none, .move (.tmp 8)⟩])
  (.seq (.ops [⟨(some 9), none, .move (.tmp 4)⟩, ⟨(some 10), none, .bin .neq none (.tmp 9) (.const (.int .i64 0))⟩])
  (.cond (.tmp 10) (.seq (.ops [⟨(some 11), none, .move (.tmp 4)⟩, ⟨(some 2), none, .move (.const (.slice none 0 0))⟩, ⟨(some 3), none, .move (.tmp 11)⟩])
    .ret)
  .skip)))
  (.seq (.ops [⟨(some 13), none, .load 2 true (.tmp 1)⟩, ⟨(some 14), none, .call true 62 [(.tmp 13)]⟩, ⟨(some 12), none, .move (.tmp 14)⟩, ⟨(some 15), none, .extract 0 (.tmp 12)⟩, ⟨(some 16), none, .extract 1 (.tmp 12)⟩, ⟨(some 5), none, .move (.tmp 15)⟩, ⟨(some 6), none, .move (.tmp 16)⟩])
  (.seq (.ops [⟨(some 17), none, .move (.tmp 5)⟩, ⟨(some 2), none, .move (.tmp 17)⟩, ⟨(some 3), none, .move (.const (.int .i64 0))⟩])
  .ret)))), [(2, none), (3, none)]⟩
/-- slices.Contains[[]int,int] -/
def ir21 : IF := ⟨(.seq (.ops [⟨(some 4), none, .move (.const (.bool false))⟩])
  (.seq (.ops [⟨(some 5), none, .move (.tmp 0)⟩, ⟨(some 6), none, .move (.tmp 1)⟩, ⟨(some 7), none, .call true 69 [(.tmp 5), (.tmp 6)]⟩, ⟨(some 8), none, .bin .geq none (.tmp 7) (.const (.int .i64 0))⟩, ⟨(some 4), none, .move (.tmp 8)⟩])
  .ret)), [(4, none)]⟩
/-- headword/headwordtop.foldsOf -/
def lp23_0 : IC := (.seq (.ops [⟨(some 15), none, .bin .lss none (.tmp 14) (.tmp 13)⟩])
  (.seq (.cond (.tmp 15) .skip
  (.exit 0))
  (.seq (.block 1 (.seq (.ops [⟨(some 16), none, .move (.tmp 14)⟩, ⟨(some 8), none, .move (.tmp 16)⟩])
    (.ops [⟨(some 17), none, .move (.tmp 7)⟩, ⟨(some 18), none, .move (.tmp 1)⟩, ⟨(some 19), none, .move (.tmp 8)⟩, ⟨(some 20), none, .bin .shr none (.tmp 18) (.tmp 19)⟩, ⟨(some 21), none, .bin .and none (.tmp 20) (.const (.int .u8 1))⟩, ⟨(some 22), none, .move (.tmp 1)⟩, ⟨(some 23), none, .move (.tmp 8)⟩, ⟨(some 24), none, .bin .shr none (.tmp 22) (.tmp 23)⟩, ⟨(some 25), none, .bin .and none (.tmp 24) (.const (.int .u8 1))⟩, ⟨(some 26), none, .bin .add none (.tmp 25) (.const (.int .u8 1))⟩, ⟨(some 27), none, .sliceStr (.const (.string ⟨#[111, 117]⟩)) (some (.tmp 21)) (some (.tmp 26))⟩, ⟨(some 28), none, .bin .add none (.tmp 17) (.tmp 27)⟩, ⟨(some 7), none, .move (.tmp 28)⟩])))
  (.ops [⟨(some 29), none, .bin .add none (.tmp 14) (.const (.int .i64 1))⟩, ⟨(some 14), none, .move (.tmp 29)⟩]))))
def ir23 : IF := ⟨(.seq (.ops [⟨(some 6), none, .move (.const (.string ⟨#[]⟩))⟩])
  (.seq (.ops [⟨(some 7), none, .move (.const (.string ⟨#[]⟩))⟩])
  (.seq (.seq (.ops [⟨(some 9), none, .move (.tmp 0)⟩, ⟨(some 10), none, .conv .i64 (.tmp 9)⟩, ⟨(some 11), none, .move (.tmp 2)⟩, ⟨(some 12), none, .bin .add none (.tmp 11) (.const (.int .i64 1))⟩, ⟨(some 13), none, .bin .rem none (.tmp 10) (.tmp 12)⟩, ⟨(some 14), none, .move (.const (.int .i64 0))⟩])
  (.block 0 (.loop true [1, 7, 13, 14] lp23_0)))
  (.seq (.ops [⟨(some 30), none, .move (.tmp 7)⟩, ⟨(some 6), none, .move (.tmp 30)⟩])
  .ret)))), [(6, none)]⟩
/-- headword/headwordtop.formed -/
def lp24_0 : IC := (.seq (.ops [⟨(some 14), none, .bin .lss none (.tmp 13) (.tmp 12)⟩])
  (.seq (.cond (.tmp 14) .skip
  (.exit 0))
  (.seq (.block 1 (.seq (.ops [⟨(some 15), none, .indexS 2 (.tmp 11) (.tmp 13)⟩, ⟨(some 16), none, .load 2 true (.tmp 15)⟩, ⟨(some 9), none, .alloc [(.v (.int .u8 0)), (.v (.int .u8 0))]⟩, ⟨none, none, .store 2 (.tmp 9) (.tmp 16)⟩])
    (.ops [⟨(some 17), none, .move (.tmp 7)⟩, ⟨(some 18), none, .indexA 2 1 (.tmp 9) (.const (.int .i64 0))⟩, ⟨(some 19), none, .load 1 false (.tmp 18)⟩, ⟨(some 20), none, .conv .i64 (.tmp 19)⟩, ⟨(some 21), none, .move (.tmp 1)⟩, ⟨(some 22), none, .bin .add none (.tmp 21) (.const (.int .i64 1))⟩, ⟨(some 23), none, .bin .rem none (.tmp 20) (.tmp 22)⟩, ⟨(some 24), none, .indexA 2 1 (.tmp 9) (.const (.int .i64 1))⟩, ⟨(some 25), none, .load 1 false (.tmp 24)⟩, ⟨(some 26), none, .conv .i64 (.tmp 25)⟩, ⟨(some 27), none, .move (.tmp 1)⟩, ⟨(some 28), none, .bin .add none (.tmp 27) (.const (.int .i64 1))⟩, ⟨(some 29), none, .bin .rem none (.tmp 26) (.tmp 28)⟩, ⟨(some 30), none, .build [(.v (.int .i64 0)), (.v (.int .i64 0))] [(0, 1, (.tmp 23)), (1, 1, (.tmp 29))]⟩, ⟨(some 31), none, .lit 2 true (.agg [(.v (.int .i64 0)), (.v (.int .i64 0))]) 1 [(0, (.tmp 30))]⟩, ⟨(some 32), none, .append 2 false (.tmp 17) (.tmp 31)⟩, ⟨(some 7), none, .move (.tmp 32)⟩])))
  (.ops [⟨(some 33), none, .bin .add none (.tmp 13) (.const (.int .i64 1))⟩, ⟨(some 13), none, .move (.tmp 33)⟩]))))
def ir24 : IF := ⟨(.seq (.ops [⟨(some 5), none, .box (.tmp 2)⟩, ⟨(some 6), none, .move (.const (.slice none 0 0))⟩])
  (.seq (.ops [⟨(some 7), none, .move (.const (.slice none 0 0))⟩])
  (.seq (.seq (.ops [⟨(some 10), none, .move (.tmp 0)⟩, ⟨(some 11), none, .slicea 8 2 true (.tmp 5) none (some (.tmp 10)) none⟩, ⟨(some 12), none, .len (.tmp 11)⟩, ⟨(some 13), none, .move (.const (.int .i64 0))⟩])
  (.block 0 (.loop true [1, 7, 11, 12, 13] lp24_0)))
  (.seq (.ops [⟨(some 34), none, .move (.tmp 7)⟩, ⟨(some 6), none, .move (.tmp 34)⟩])
  .ret)))), [(6, none)]⟩
/-- headword/quire.Pile -/
def ir25 : IF := ⟨(.seq (.ops [⟨(some 2), none, .move (.const (.slice none 0 0))⟩, ⟨(some 3), none, .move (.const (.int .i64 0))⟩])
  (.seq (.seq (.ops [⟨(some 5), none, .move (.tmp 0)⟩, ⟨(some 6), none, .call true 71 [(.tmp 5)]⟩, ⟨(some 4), none, .move (.tmp 6)⟩])
  (.seq (.ops [⟨(some 7), none, .move (.tmp 4)⟩, ⟨(some 8), none, .bin .neq none (.tmp 7) (.const (.int .i64 0))⟩])
  (.cond (.tmp 8) (.seq (.ops [⟨(some 9), none, .move (.tmp 4)⟩, ⟨(some 2), none, .move (.const (.slice none 0 0))⟩, ⟨(some 3), none, .move (.tmp 9)⟩])
    .ret)
  .skip)))
  (.seq (.ops [⟨(some 10), none, .move (.tmp 0)⟩, ⟨(some 11), none, .call true 72 [(.tmp 10)]⟩, ⟨(some 2), none, .move (.tmp 11)⟩, ⟨(some 3), none, .move (.const (.int .i64 0))⟩])
  .ret))), [(2, none), (3, none)]⟩
/-- strings.NewReplacer -/
def ir26 : IF := ⟨(.seq (.ops [⟨(some 2), none, .move (.const (.pointer none))⟩])
  (.seq (.seq (.ops [⟨(some 3), none, .move (.tmp 0)⟩, ⟨(some 4), none, .len (.tmp 3)⟩, ⟨(some 5), none, .bin .rem none (.tmp 4) (.const (.int .i64 2))⟩, ⟨(some 6), none, .bin .eql none (.tmp 5) (.const (.int .i64 1))⟩])
  (.cond (.tmp 6) (.ops [⟨(some 7), none, .iface 9 (.const (.string ⟨#[115, 116, 114, 105, 110, 103, 115, 46, 78, 101, 119, 82, 101, 112, 108, 97, 99, 101, 114, 58, 32, 111, 100, 100, 32, 97, 114, 103, 117, 109, 101, 110, 116, 32, 99, 111, 117, 110, 116]⟩))⟩, ⟨none, none, .die⟩])
  .skip))
  (.seq (.ops [⟨(some 8), none, .move (.tmp 0)⟩, ⟨(some 9), none, .append 1 true (.const (.slice none 0 0)) (.tmp 8)⟩, ⟨(some 10), none, .build [(.v (.int .u32 0)), (.v (.int .i32 0)), (.v (.int .u32 0)), (.v .nilIface), (.v (.slice none 0 0))] [(4, 1, (.tmp 9))]⟩, ⟨(some 11), none, .box (.tmp 10)⟩, ⟨(some 2), none, .move (.tmp 11)⟩])
  .ret))), [(2, none)]⟩
/-- headword/press.Time -/
def ir29 : IF := ⟨(.seq (.ops [⟨(some 4), none, .move (.const (.int .i64 0))⟩, ⟨(some 5), none, .move (.const (.int .i64 0))⟩])
  (.seq (.ops [⟨(some 9), none, .move (.tmp 0)⟩, ⟨(some 10), none, .move (.tmp 1)⟩, ⟨(some 11), none, .call true 77 [(.tmp 9), (.tmp 10)]⟩, ⟨(some 8), none, .move (.tmp 11)⟩, ⟨(some 12), none, .extract 0 (.tmp 8)⟩, ⟨(some 13), none, .extract 1 (.tmp 8)⟩, ⟨(some 6), none, .move (.tmp 12)⟩, ⟨(some 7), none, .move (.tmp 13)⟩])
  (.seq (.seq (.ops [⟨(some 14), none, .move (.tmp 7)⟩, ⟨(some 15), none, .bin .neq none (.tmp 14) (.const (.int .i64 0))⟩])
  (.cond (.tmp 15) (.seq (.ops [⟨(some 16), none, .move (.tmp 7)⟩, ⟨(some 4), none, .move (.const (.int .i64 0))⟩, ⟨(some 5), none, .move (.tmp 16)⟩])
    .ret)
  .skip))
  (.seq (.ops [⟨(some 17), none, .move (.tmp 6)⟩, ⟨(some 18), none, .call true 78 [(.tmp 17)]⟩, ⟨(some 4), none, .move (.tmp 18)⟩, ⟨(some 5), none, .move (.const (.int .i64 0))⟩])
  .ret)))), [(4, none), (5, none)]⟩
/-- headword/headwordtop.pressesWork -/
def ir30 : IF := ⟨(.seq (.ops [⟨(some 0), none, .move (.const (.bool false))⟩])
  (.seq (.ops [⟨(some 4), none, .build [(.v (.int .i64 0)), (.v (.int .i64 0))] [(0, 1, (.const (.int .i64 3))), (1, 1, (.const (.int .i64 2)))]⟩, ⟨(some 5), none, .build [(.v (.int .i64 0)), (.v (.int .i64 0))] [(0, 1, (.const (.int .i64 1))), (1, 1, (.const (.int .i64 4)))]⟩, ⟨(some 6), none, .build [(.v (.int .i64 0)), (.v (.int .i64 0))] [(0, 1, (.const (.int .i64 5))), (1, 1, (.const (.int .i64 1)))]⟩, ⟨(some 7), none, .lit 2 true (.agg [(.v (.int .i64 0)), (.v (.int .i64 0))]) 3 [(0, (.tmp 4)), (1, (.tmp 5)), (2, (.tmp 6))]⟩, ⟨(some 8), none, .call true 79 [(.tmp 7)]⟩, ⟨(some 3), none, .move (.tmp 8)⟩, ⟨(some 9), none, .extract 0 (.tmp 3)⟩, ⟨(some 10), none, .extract 1 (.tmp 3)⟩, ⟨(some 1), none, .move (.tmp 9)⟩, ⟨(some 2), none, .move (.tmp 10)⟩])
  (.seq (.ops [⟨(some 11), none, .move (.tmp 2)⟩, ⟨(some 12), none, .bin .eql none (.tmp 11) (.const (.int .i64 0))⟩, ⟨(some 13), none, .move (.tmp 12)⟩, ⟨(some 14), (some (13, true)), .move (.tmp 1)⟩, ⟨(some 15), (some (13, true)), .lit 1 false (.v (.int .i64 0)) 3 [(0, (.const (.int .i64 1))), (1, (.const (.int .i64 0))), (2, (.const (.int .i64 2)))]⟩, ⟨(some 16), (some (13, true)), .call true 15 [(.tmp 15)]⟩, ⟨(some 17), (some (13, true)), .call true 14 [(.tmp 14), (.tmp 16)]⟩, ⟨(some 18), none, .pick (.tmp 13) (.tmp 17) (.const (.bool false))⟩, ⟨(some 19), none, .move (.tmp 18)⟩, ⟨(some 20), (some (19, true)), .call true 80 []⟩, ⟨(some 21), none, .pick (.tmp 19) (.tmp 20) (.const (.bool false))⟩, ⟨(some 22), none, .move (.tmp 21)⟩, ⟨(some 23), (some (22, true)), .call true 81 []⟩, ⟨(some 24), none, .pick (.tmp 22) (.tmp 23) (.const (.bool false))⟩, ⟨(some 0), none, .move (.tmp 24)⟩])
  .ret))), [(0, none)]⟩
/-- headword/class.Parted -/
def ir43 : IF := ⟨(.seq (.ops [⟨(some 8), none, .move (.const (.int .i64 0))⟩, ⟨(some 9), none, .move (.const (.int .i64 0))⟩])
  (.seq (.ops [⟨(some 13), none, .move (.tmp 0)⟩, ⟨(some 14), none, .move (.tmp 1)⟩, ⟨(some 15), none, .callk 102 [(.tmp 13), (.tmp 14)]⟩, ⟨(some 12), none, .move (.tmp 15)⟩, ⟨(some 16), none, .extract 0 (.tmp 12)⟩, ⟨(some 17), none, .extract 1 (.tmp 12)⟩, ⟨(some 10), none, .move (.tmp 16)⟩, ⟨(some 11), none, .move (.tmp 17)⟩])
  (.seq (.block 0 (.seq (.ops [⟨(some 19), none, .move (.tmp 11)⟩, ⟨(some 20), none, .bin .neq none (.tmp 19) (.const (.int .i64 0))⟩, ⟨(some 18), none, .move (.tmp 20)⟩])
    (.cond (.tmp 18) (.seq (.ops [⟨(some 21), none, .move (.tmp 11)⟩, ⟨(some 8), none, .move (.const (.int .i64 0))⟩, ⟨(some 9), none, .move (.tmp 21)⟩])
      .ret)
    (.seq (.ops [⟨(some 23), none, .move (.tmp 2)⟩, ⟨(some 24), none, .move (.tmp 3)⟩, ⟨(some 25), none, .min (.tmp 23) (.tmp 24)⟩, ⟨(some 26), none, .bin .lss none (.tmp 25) (.const (.int .i64 0))⟩, ⟨(some 27), none, .move (.tmp 26)⟩, ⟨(some 28), (some (27, false)), .move (.tmp 2)⟩, ⟨(some 29), (some (27, false)), .move (.tmp 3)⟩, ⟨(some 30), (some (27, false)), .max (.tmp 28) (.tmp 29)⟩, ⟨(some 31), (some (27, false)), .move (.tmp 0)⟩, ⟨(some 32), (some (27, false)), .bin .geq none (.tmp 30) (.tmp 31)⟩, ⟨(some 33), none, .pick (.tmp 27) (.const (.bool true)) (.tmp 32)⟩, ⟨(some 22), none, .move (.tmp 33)⟩])
      (.cond (.tmp 22) (.seq (.ops [⟨(some 8), none, .move (.const (.int .i64 0))⟩, ⟨(some 9), none, .move (.const (.int .i64 2))⟩])
        .ret)
      .skip)))))
  (.seq (.seq (.frz [10])
  (.ops [⟨(some 34), none, .move (.tmp 10)⟩, ⟨(some 35), none, .move (.tmp 2)⟩, ⟨(some 36), none, .move (.tmp 3)⟩, ⟨(some 37), none, .call true 104 [(.tmp 34), (.tmp 35), (.tmp 36)]⟩, ⟨(some 8), none, .move (.tmp 37)⟩, ⟨(some 9), none, .move (.const (.int .i64 0))⟩]))
  .ret)))), [(8, none), (9, none)]⟩
/-- headword/fact.Check -/
def lp61_0 : IC := (.seq (.ops [⟨(some 23), none, .bin .lss none (.tmp 22) (.tmp 21)⟩])
  (.seq (.cond (.tmp 23) .skip
  (.exit 1))
  (.seq (.block 2 (.seq (.ops [⟨(some 24), none, .move (.tmp 22)⟩, ⟨(some 25), none, .indexS 2 (.tmp 20) (.tmp 22)⟩, ⟨(some 26), none, .load 2 true (.tmp 25)⟩, ⟨(some 4), none, .alloc [(.v (.int .i64 0)), (.v (.int .i64 0))]⟩, ⟨(some 3), none, .move (.tmp 24)⟩, ⟨none, none, .store 2 (.tmp 4) (.tmp 26)⟩])
    (.block 3 (.seq (.ops [⟨(some 28), none, .indexA 2 1 (.tmp 4) (.const (.int .i64 0))⟩, ⟨(some 29), none, .load 1 false (.tmp 28)⟩, ⟨(some 30), none, .indexA 2 1 (.tmp 4) (.const (.int .i64 1))⟩, ⟨(some 31), none, .load 1 false (.tmp 30)⟩, ⟨(some 32), none, .min (.tmp 29) (.tmp 31)⟩, ⟨(some 33), none, .bin .lss none (.tmp 32) (.const (.int .i64 0))⟩, ⟨(some 34), none, .move (.tmp 33)⟩, ⟨(some 35), (some (34, false)), .indexA 2 1 (.tmp 4) (.const (.int .i64 0))⟩, ⟨(some 36), (some (34, false)), .load 1 false (.tmp 35)⟩, ⟨(some 37), (some (34, false)), .indexA 2 1 (.tmp 4) (.const (.int .i64 1))⟩, ⟨(some 38), (some (34, false)), .load 1 false (.tmp 37)⟩, ⟨(some 39), (some (34, false)), .max (.tmp 36) (.tmp 38)⟩, ⟨(some 40), (some (34, false)), .fieldAddr 0 (.tmp 1)⟩, ⟨(some 41), (some (34, false)), .load 1 false (.tmp 40)⟩, ⟨(some 42), (some (34, false)), .bin .geq none (.tmp 39) (.tmp 41)⟩, ⟨(some 43), none, .pick (.tmp 34) (.const (.bool true)) (.tmp 42)⟩, ⟨(some 27), none, .move (.tmp 43)⟩])
      (.cond (.tmp 27) (.seq (.ops [⟨(some 2), none, .move (.const (.int .i64 2))⟩])
        .ret)
      (.seq (.ops [⟨(some 45), none, .indexA 2 1 (.tmp 4) (.const (.int .i64 0))⟩, ⟨(some 46), none, .load 1 false (.tmp 45)⟩, ⟨(some 47), none, .indexA 2 1 (.tmp 4) (.const (.int .i64 1))⟩, ⟨(some 48), none, .load 1 false (.tmp 47)⟩, ⟨(some 49), none, .bin .geq none (.tmp 46) (.tmp 48)⟩, ⟨(some 44), none, .move (.tmp 49)⟩])
        (.cond (.tmp 44) (.seq (.ops [⟨(some 2), none, .move (.const (.int .i64 7))⟩])
          .ret)
        (.seq (.ops [⟨(some 51), none, .fieldAddr 1 (.tmp 1)⟩, ⟨(some 52), none, .load 1 false (.tmp 51)⟩, ⟨(some 53), none, .move (.tmp 3)⟩, ⟨(some 54), none, .slice 2 (.tmp 52) none (some (.tmp 53)) none⟩, ⟨(some 55), none, .load 2 true (.tmp 4)⟩, ⟨(some 56), none, .call true 121 [(.tmp 54), (.tmp 55)]⟩, ⟨(some 50), none, .move (.tmp 56)⟩])
          (.cond (.tmp 50) (.seq (.ops [⟨(some 2), none, .move (.const (.int .i64 6))⟩])
            .ret)
          .skip)))))))))
  (.ops [⟨(some 57), none, .bin .add none (.tmp 22) (.const (.int .i64 1))⟩, ⟨(some 22), none, .move (.tmp 57)⟩]))))
def ir61 : IF := ⟨(.seq (.ops [⟨(some 1), none, .box (.tmp 0)⟩, ⟨(some 2), none, .move (.const (.int .i64 0))⟩])
  (.seq (.block 0 (.seq (.ops [⟨(some 6), none, .fieldAddr 0 (.tmp 1)⟩, ⟨(some 7), none, .load 1 false (.tmp 6)⟩, ⟨(some 8), none, .bin .lss none (.tmp 7) (.const (.int .i64 1))⟩, ⟨(some 9), none, .move (.tmp 8)⟩, ⟨(some 10), (some (9, false)), .fieldAddr 0 (.tmp 1)⟩, ⟨(some 11), (some (9, false)), .load 1 false (.tmp 10)⟩, ⟨(some 12), (some (9, false)), .bin .gtr none (.tmp 11) (.const (.int .i64 7))⟩, ⟨(some 13), none, .pick (.tmp 9) (.const (.bool true)) (.tmp 12)⟩, ⟨(some 5), none, .move (.tmp 13)⟩])
    (.cond (.tmp 5) (.seq (.ops [⟨(some 2), none, .move (.const (.int .i64 1))⟩])
      .ret)
    (.seq (.ops [⟨(some 15), none, .fieldAddr 1 (.tmp 1)⟩, ⟨(some 16), none, .load 1 false (.tmp 15)⟩, ⟨(some 17), none, .len (.tmp 16)⟩, ⟨(some 18), none, .bin .gtr none (.tmp 17) (.const (.int .i64 10))⟩, ⟨(some 14), none, .move (.tmp 18)⟩])
      (.cond (.tmp 14) (.seq (.ops [⟨(some 2), none, .move (.const (.int .i64 3))⟩])
        .ret)
      .skip)))))
  (.seq (.seq (.ops [⟨(some 19), none, .fieldAddr 1 (.tmp 1)⟩, ⟨(some 20), none, .load 1 false (.tmp 19)⟩, ⟨(some 21), none, .len (.tmp 20)⟩, ⟨(some 22), none, .move (.const (.int .i64 0))⟩])
  (.block 1 (.loop true [1, 20, 21, 22] lp61_0)))
  (.seq (.ops [⟨(some 2), none, .move (.const (.int .i64 0))⟩])
  .ret)))), [(2, none)]⟩
/-- (headword/fact.Book).shortest -/
def lp62_0 : IC := (.seq (.ops [⟨(some 12), none, .bin .lss none (.tmp 11) (.tmp 10)⟩])
  (.seq (.cond (.tmp 12) .skip
  (.exit 0))
  (.seq (.block 1 (.seq (.ops [⟨(some 13), none, .move (.tmp 11)⟩, ⟨(some 6), none, .move (.tmp 13)⟩])
    (.seq (.ops [⟨(some 14), none, .move (.tmp 6)⟩, ⟨(some 15), none, .call true 122 [(.tmp 14)]⟩, ⟨(some 7), none, .move (.tmp 15)⟩])
    (.seq (.seq (.ops [⟨(some 16), none, .load 2 true (.tmp 1)⟩, ⟨(some 17), none, .move (.tmp 6)⟩, ⟨(some 18), none, .call true 70 [(.tmp 16), (.tmp 17)]⟩, ⟨(some 19), none, .not (.tmp 18)⟩, ⟨(some 20), none, .move (.tmp 19)⟩, ⟨(some 21), (some (20, false)), .move (.tmp 5)⟩, ⟨(some 22), (some (20, false)), .bin .gtr none (.tmp 21) (.const (.int .i64 0))⟩, ⟨(some 23), (some (20, false)), .move (.tmp 22)⟩, ⟨(some 24), (some (23, true)), .move (.tmp 7)⟩, ⟨(some 25), (some (23, true)), .len (.tmp 24)⟩, ⟨(some 26), (some (23, true)), .move (.tmp 4)⟩, ⟨(some 27), (some (23, true)), .len (.tmp 26)⟩, ⟨(some 28), (some (23, true)), .bin .gtr none (.tmp 25) (.tmp 27)⟩, ⟨(some 29), (some (20, false)), .pick (.tmp 23) (.tmp 28) (.const (.bool false))⟩, ⟨(some 30), none, .pick (.tmp 20) (.const (.bool true)) (.tmp 29)⟩])
    (.cond (.tmp 30) (.exit 1)
    .skip))
    (.seq (.seq (.ops [⟨(some 31), none, .move (.tmp 5)⟩, ⟨(some 32), none, .bin .eql none (.tmp 31) (.const (.int .i64 0))⟩, ⟨(some 33), none, .move (.tmp 32)⟩, ⟨(some 34), (some (33, false)), .move (.tmp 7)⟩, ⟨(some 35), (some (33, false)), .len (.tmp 34)⟩, ⟨(some 36), (some (33, false)), .move (.tmp 4)⟩, ⟨(some 37), (some (33, false)), .len (.tmp 36)⟩, ⟨(some 38), (some (33, false)), .bin .lss none (.tmp 35) (.tmp 37)⟩, ⟨(some 39), none, .pick (.tmp 33) (.const (.bool true)) (.tmp 38)⟩])
    (.cond (.tmp 39) (.seq (.ops [⟨(some 40), none, .move (.tmp 7)⟩, ⟨(some 4), none, .move (.tmp 40)⟩, ⟨(some 5), none, .move (.const (.int .i64 1))⟩])
      (.exit 1))
    .skip))
    (.seq (.ops [⟨(some 41), none, .move (.tmp 5)⟩, ⟨(some 42), none, .bin .add none (.tmp 41) (.const (.int .i64 1))⟩, ⟨(some 5), none, .move (.tmp 42)⟩])
    (.seq (.ops [⟨(some 43), none, .move (.tmp 7)⟩, ⟨(some 44), none, .move (.tmp 4)⟩, ⟨(some 45), none, .call false 68 [(.tmp 43), (.tmp 44)]⟩, ⟨(some 46), none, .bin .lss none (.tmp 45) (.const (.int .i64 0))⟩])
    (.cond (.tmp 46) (.ops [⟨(some 47), none, .move (.tmp 7)⟩, ⟨(some 4), none, .move (.tmp 47)⟩])
    .skip))))))))
  (.ops [⟨(some 48), none, .bin .add none (.tmp 11) (.const (.int .u64 1))⟩, ⟨(some 11), none, .move (.tmp 48)⟩]))))
def ir62 : IF := ⟨(.seq (.ops [⟨(some 1), none, .box (.tmp 0)⟩, ⟨(some 2), none, .move (.const (.slice none 0 0))⟩, ⟨(some 3), none, .move (.const (.int .i64 0))⟩])
  (.seq (.ops [⟨(some 4), none, .move (.const (.slice none 0 0))⟩])
  (.seq (.ops [⟨(some 5), none, .move (.const (.int .i64 0))⟩])
  (.seq (.seq (.ops [⟨(some 8), none, .fieldAddr 0 (.tmp 1)⟩, ⟨(some 9), none, .load 1 false (.tmp 8)⟩, ⟨(some 10), none, .bin .shl none (.const (.int .u64 1)) (.tmp 9)⟩, ⟨(some 11), none, .move (.const (.int .u64 0))⟩])
  (.block 0 (.loop true [1, 4, 5, 10, 11] lp62_0)))
  (.seq (.ops [⟨(some 49), none, .move (.tmp 4)⟩, ⟨(some 50), none, .move (.tmp 5)⟩, ⟨(some 2), none, .move (.tmp 49)⟩, ⟨(some 3), none, .move (.tmp 50)⟩])
  .ret))))), [(2, none), (3, none)]⟩
/-- math/bits.OnesCount -/
def ir67 : IF := ⟨(.seq (.ops [⟨(some 2), none, .move (.const (.int .i64 0))⟩])
  (.seq (.cond (.const (.bool false)) (.seq (.ops [⟨(some 3), none, .move (.tmp 0)⟩, ⟨(some 4), none, .conv .u32 (.tmp 3)⟩, ⟨(some 5), none, .call true 126 [(.tmp 4)]⟩, ⟨(some 2), none, .move (.tmp 5)⟩])
    .ret)
  .skip)
  (.seq (.ops [⟨(some 6), none, .move (.tmp 0)⟩, ⟨(some 7), none, .call true 127 [(.tmp 6)]⟩, ⟨(some 2), none, .move (.tmp 7)⟩])
  .ret))), [(2, none)]⟩
/-- slices.Compare[[]int,int] -/
def lp68_0 : IC := (.seq (.ops [⟨(some 12), none, .bin .lss none (.tmp 11) (.tmp 10)⟩])
  (.seq (.cond (.tmp 12) .skip
  (.exit 0))
  (.seq (.block 1 (.seq (.ops [⟨(some 13), none, .move (.tmp 11)⟩, ⟨(some 14), none, .indexS 1 (.tmp 9) (.tmp 11)⟩, ⟨(some 15), none, .load 1 false (.tmp 14)⟩, ⟨(some 5), none, .move (.tmp 13)⟩, ⟨(some 6), none, .move (.tmp 15)⟩])
    (.seq (.seq (.ops [⟨(some 16), none, .move (.tmp 5)⟩, ⟨(some 17), none, .move (.tmp 1)⟩, ⟨(some 18), none, .len (.tmp 17)⟩, ⟨(some 19), none, .bin .geq none (.tmp 16) (.tmp 18)⟩])
    (.cond (.tmp 19) (.seq (.ops [⟨(some 4), none, .move (.const (.int .i64 1))⟩])
      .ret)
    .skip))
    (.seq (.ops [⟨(some 20), none, .move (.tmp 1)⟩, ⟨(some 21), none, .move (.tmp 5)⟩, ⟨(some 22), none, .indexS 1 (.tmp 20) (.tmp 21)⟩, ⟨(some 23), none, .load 1 false (.tmp 22)⟩, ⟨(some 7), none, .move (.tmp 23)⟩])
    (.seq (.ops [⟨(some 24), none, .move (.tmp 6)⟩, ⟨(some 25), none, .move (.tmp 7)⟩, ⟨(some 26), none, .call true 128 [(.tmp 24), (.tmp 25)]⟩, ⟨(some 8), none, .move (.tmp 26)⟩])
    (.seq (.ops [⟨(some 27), none, .move (.tmp 8)⟩, ⟨(some 28), none, .bin .neq none (.tmp 27) (.const (.int .i64 0))⟩])
    (.cond (.tmp 28) (.seq (.ops [⟨(some 29), none, .move (.tmp 8)⟩, ⟨(some 4), none, .move (.tmp 29)⟩])
      .ret)
    .skip)))))))
  (.ops [⟨(some 30), none, .bin .add none (.tmp 11) (.const (.int .i64 1))⟩, ⟨(some 11), none, .move (.tmp 30)⟩]))))
def ir68 : IF := ⟨(.seq (.ops [⟨(some 4), none, .move (.const (.int .i64 0))⟩])
  (.seq (.seq (.ops [⟨(some 9), none, .move (.tmp 0)⟩, ⟨(some 10), none, .len (.tmp 9)⟩, ⟨(some 11), none, .move (.const (.int .i64 0))⟩])
  (.block 0 (.loop false [0, 1, 9, 10, 11] lp68_0)))
  (.seq (.seq (.ops [⟨(some 31), none, .move (.tmp 0)⟩, ⟨(some 32), none, .len (.tmp 31)⟩, ⟨(some 33), none, .move (.tmp 1)⟩, ⟨(some 34), none, .len (.tmp 33)⟩, ⟨(some 35), none, .bin .lss none (.tmp 32) (.tmp 34)⟩])
  (.cond (.tmp 35) (.seq (.ops [⟨(some 4), none, .move (.const (.int .i64 (-1)))⟩])
    .ret)
  .skip))
  (.seq (.ops [⟨(some 4), none, .move (.const (.int .i64 0))⟩])
  .ret)))), [(4, none)]⟩
/-- slices.Index[[]int,int] -/
def lp69_0 : IC := (.seq (.ops [⟨(some 9), none, .bin .lss none (.tmp 8) (.tmp 7)⟩])
  (.seq (.cond (.tmp 9) .skip
  (.exit 0))
  (.seq (.block 1 (.seq (.ops [⟨(some 10), none, .move (.tmp 8)⟩, ⟨(some 5), none, .move (.tmp 10)⟩])
    (.seq (.ops [⟨(some 11), none, .move (.tmp 1)⟩, ⟨(some 12), none, .move (.tmp 0)⟩, ⟨(some 13), none, .move (.tmp 5)⟩, ⟨(some 14), none, .indexS 1 (.tmp 12) (.tmp 13)⟩, ⟨(some 15), none, .load 1 false (.tmp 14)⟩, ⟨(some 16), none, .bin .eql none (.tmp 11) (.tmp 15)⟩])
    (.cond (.tmp 16) (.seq (.ops [⟨(some 17), none, .move (.tmp 5)⟩, ⟨(some 4), none, .move (.tmp 17)⟩])
      .ret)
    .skip))))
  (.ops [⟨(some 18), none, .bin .add none (.tmp 8) (.const (.int .i64 1))⟩, ⟨(some 8), none, .move (.tmp 18)⟩]))))
def ir69 : IF := ⟨(.seq (.ops [⟨(some 4), none, .move (.const (.int .i64 0))⟩])
  (.seq (.seq (.ops [⟨(some 6), none, .move (.tmp 0)⟩, ⟨(some 7), none, .len (.tmp 6)⟩, ⟨(some 8), none, .move (.const (.int .i64 0))⟩])
  (.block 0 (.loop true [0, 1, 7, 8] lp69_0)))
  (.seq (.ops [⟨(some 4), none, .move (.const (.int .i64 (-1)))⟩])
  .ret))), [(4, none)]⟩
/-- (headword/fact.Book).explained -/
def ir70 : IF := ⟨(.seq (.ops [⟨(some 2), none, .box (.tmp 0)⟩, ⟨(some 3), none, .box (.tmp 1)⟩, ⟨(some 4), none, .move (.const (.bool false))⟩])
  (.seq (.ops [⟨(some 5), none, .fieldAddr 1 (.tmp 2)⟩, ⟨(some 6), none, .load 1 false (.tmp 5)⟩, ⟨(some 7), none, .func (.func 130) [] [(.tmp 3)]⟩, ⟨(some 8), none, .call false 129 [(.tmp 6), (.tmp 7)]⟩, ⟨(some 9), none, .not (.tmp 8)⟩, ⟨(some 4), none, .move (.tmp 9)⟩])
  .ret)), [(4, none)]⟩
/-- headword/quire.Check -/
def ir71 : IF := ⟨(.seq (.ops [⟨(some 2), none, .move (.const (.int .i64 0))⟩])
  (.seq (.ops [⟨(some 3), none, .move (.tmp 0)⟩, ⟨(some 4), none, .call true 131 [(.tmp 3), (.const (.int .i64 6)), (.const (.string ⟨#[111, 117]⟩))]⟩, ⟨(some 2), none, .move (.tmp 4)⟩])
  .ret)), [(2, none)]⟩
/-- headword/quire.pile -/
def lp72_0 : IC := (.seq (.ops [⟨(some 29), none, .bin .lss none (.tmp 28) (.tmp 27)⟩])
  (.seq (.cond (.tmp 29) .skip
  (.exit 0))
  (.seq (.block 1 (.seq (.ops [⟨(some 30), none, .indexS 1 (.tmp 26) (.tmp 28)⟩, ⟨(some 31), none, .load 1 false (.tmp 30)⟩, ⟨(some 8), none, .move (.tmp 31)⟩])
    (.seq (.ops [⟨(some 32), none, .move (.tmp 6)⟩, ⟨(some 33), none, .move (.tmp 8)⟩, ⟨(some 34), none, .bin .sub none (.tmp 32) (.tmp 33)⟩, ⟨(some 35), none, .move (.tmp 8)⟩, ⟨(some 36), none, .build [(.v (.int .i64 0)), (.v (.int .i64 0))] [(0, 1, (.tmp 34)), (1, 1, (.tmp 35))]⟩, ⟨(some 9), none, .alloc [(.v (.int .i64 0)), (.v (.int .i64 0))]⟩, ⟨none, none, .store 2 (.tmp 9) (.tmp 36)⟩])
    (.seq (.seq (.ops [⟨(some 37), none, .move (.tmp 0)⟩, ⟨(some 38), none, .indexStr (.tmp 37) (.const (.int .i64 0))⟩, ⟨(some 39), none, .bin .eql none (.tmp 38) (.const (.int .u8 111))⟩, ⟨(some 40), none, .move (.tmp 8)⟩, ⟨(some 41), none, .bin .rem none (.tmp 40) (.const (.int .i64 2))⟩, ⟨(some 42), none, .bin .eql none (.tmp 41) (.const (.int .i64 0))⟩, ⟨(some 43), none, .bin .neq (some 1) (.tmp 39) (.tmp 42)⟩])
    (.cond (.tmp 43) (.ops [⟨(some 44), none, .move (.tmp 8)⟩, ⟨(some 45), none, .move (.tmp 6)⟩, ⟨(some 46), none, .move (.tmp 8)⟩, ⟨(some 47), none, .bin .sub none (.tmp 45) (.tmp 46)⟩, ⟨(some 48), none, .build [(.v (.int .i64 0)), (.v (.int .i64 0))] [(0, 1, (.tmp 44)), (1, 1, (.tmp 47))]⟩, ⟨none, none, .store 2 (.tmp 9) (.tmp 48)⟩])
    .skip))
    (.ops [⟨(some 49), none, .move (.tmp 5)⟩, ⟨(some 50), none, .slicea 2 1 false (.tmp 9) none none none⟩, ⟨(some 51), none, .appendm 1 false (.tmp 49) (.tmp 50)⟩, ⟨(some 5), none, .move (.tmp 51)⟩])))))
  (.ops [⟨(some 52), none, .bin .add none (.tmp 28) (.const (.int .i64 1))⟩, ⟨(some 28), none, .move (.tmp 52)⟩]))))
def ir72 : IF := ⟨(.seq (.ops [⟨(some 2), none, .move (.const (.slice none 0 0))⟩])
  (.seq (.ops [⟨(some 10), none, .move (.tmp 0)⟩, ⟨(some 11), none, .lenStr (.tmp 10)⟩, ⟨(some 3), none, .move (.tmp 11)⟩])
  (.seq (.seq (.ops [⟨(some 12), none, .move (.tmp 3)⟩, ⟨(some 13), none, .bin .eql none (.tmp 12) (.const (.int .i64 0))⟩])
  (.cond (.tmp 13) (.seq (.ops [⟨(some 14), none, .lit 1 false (.v (.int .i64 0)) 1 [(0, (.const (.int .i64 0)))]⟩, ⟨(some 2), none, .move (.tmp 14)⟩])
    .ret)
  .skip))
  (.seq (.ops [⟨(some 15), none, .move (.tmp 0)⟩, ⟨(some 16), none, .sliceStr (.tmp 15) (some (.const (.int .i64 1))) none⟩, ⟨(some 17), none, .call true 72 [(.tmp 16)]⟩, ⟨(some 4), none, .move (.tmp 17)⟩])
  (.seq (.ops [⟨(some 18), none, .move (.tmp 4)⟩, ⟨(some 19), none, .len (.tmp 18)⟩, ⟨(some 20), none, .bin .mul none (.const (.int .i64 2)) (.tmp 19)⟩, ⟨(some 21), none, .make 1 false [(.v (.int .i64 0))] (.const (.int .i64 0)) (.tmp 20)⟩, ⟨(some 5), none, .move (.tmp 21)⟩])
  (.seq (.ops [⟨(some 22), none, .move (.tmp 4)⟩, ⟨(some 23), none, .len (.tmp 22)⟩, ⟨(some 24), none, .bin .mul none (.const (.int .i64 2)) (.tmp 23)⟩, ⟨(some 25), none, .bin .sub none (.tmp 24) (.const (.int .i64 1))⟩, ⟨(some 6), none, .move (.tmp 25)⟩])
  (.seq (.seq (.ops [⟨(some 26), none, .move (.tmp 4)⟩, ⟨(some 27), none, .len (.tmp 26)⟩, ⟨(some 28), none, .move (.const (.int .i64 0))⟩])
  (.block 0 (.loop true [0, 5, 6, 26, 27, 28] lp72_0)))
  (.seq (.ops [⟨(some 53), none, .move (.tmp 5)⟩, ⟨(some 2), none, .move (.tmp 53)⟩])
  .ret)))))))), [(2, none)]⟩
/-- (*sync.Once).Do -/
def ir73 : IF := ⟨(.seq (.ops [⟨(some 4), none, .move (.tmp 0)⟩, ⟨(some 5), none, .nil (.tmp 4)⟩, ⟨(some 6), none, .fieldAddr 0 (.tmp 5)⟩, ⟨(some 7), none, .call false 132 [(.tmp 6)]⟩, ⟨(some 8), none, .not (.tmp 7)⟩])
  (.cond (.tmp 8) (.ops [⟨(some 9), none, .move (.tmp 0)⟩, ⟨(some 10), none, .move (.tmp 1)⟩, ⟨(some 11), none, .call false 133 [(.tmp 9), (.tmp 10)]⟩])
  .skip)), []⟩
/-- (*strings.Replacer).buildOnce -/
def ir74 : IF := ⟨(.seq (.ops [⟨(some 2), none, .move (.tmp 0)⟩, ⟨(some 3), none, .move (.tmp 0)⟩, ⟨(some 4), none, .call false 134 [(.tmp 3)]⟩, ⟨(some 5), none, .nil (.tmp 2)⟩, ⟨(some 6), none, .fieldAddr 3 (.tmp 5)⟩, ⟨none, none, .store 1 (.tmp 6) (.tmp 4)⟩])
  (.ops [⟨(some 7), none, .move (.tmp 0)⟩, ⟨(some 8), none, .nil (.tmp 7)⟩, ⟨(some 9), none, .fieldAddr 4 (.tmp 8)⟩, ⟨none, none, .store 1 (.tmp 9) (.const (.slice none 0 0))⟩])), []⟩
/-- headword/press.Check -/
def lp75_0 : IC := (.seq (.ops [⟨(some 16), none, .bin .lss none (.tmp 15) (.tmp 14)⟩])
  (.seq (.cond (.tmp 16) .skip
  (.exit 1))
  (.seq (.block 2 (.seq (.ops [⟨(some 17), none, .indexS 2 (.tmp 13) (.tmp 15)⟩, ⟨(some 18), none, .load 2 true (.tmp 17)⟩, ⟨(some 4), none, .alloc [(.v (.int .i64 0)), (.v (.int .i64 0))]⟩, ⟨none, none, .store 2 (.tmp 4) (.tmp 18)⟩])
    (.seq (.ops [⟨(some 19), none, .fieldAddr 0 (.tmp 4)⟩, ⟨(some 20), none, .load 1 false (.tmp 19)⟩, ⟨(some 21), none, .fieldAddr 1 (.tmp 4)⟩, ⟨(some 22), none, .load 1 false (.tmp 21)⟩, ⟨(some 23), none, .min (.tmp 20) (.tmp 22)⟩, ⟨(some 24), none, .bin .lss none (.tmp 23) (.const (.int .i64 0))⟩, ⟨(some 25), none, .move (.tmp 24)⟩, ⟨(some 26), (some (25, false)), .fieldAddr 0 (.tmp 4)⟩, ⟨(some 27), (some (25, false)), .load 1 false (.tmp 26)⟩, ⟨(some 28), (some (25, false)), .fieldAddr 1 (.tmp 4)⟩, ⟨(some 29), (some (25, false)), .load 1 false (.tmp 28)⟩, ⟨(some 30), (some (25, false)), .max (.tmp 27) (.tmp 29)⟩, ⟨(some 31), (some (25, false)), .bin .gtr none (.tmp 30) (.const (.int .i64 50))⟩, ⟨(some 32), none, .pick (.tmp 25) (.const (.bool true)) (.tmp 31)⟩])
    (.cond (.tmp 32) (.seq (.ops [⟨(some 2), none, .move (.const (.int .i64 1))⟩])
      .ret)
    .skip))))
  (.ops [⟨(some 33), none, .bin .add none (.tmp 15) (.const (.int .i64 1))⟩, ⟨(some 15), none, .move (.tmp 33)⟩]))))
def ir75 : IF := ⟨(.seq (.ops [⟨(some 2), none, .move (.const (.int .i64 0))⟩])
  (.seq (.block 0 (.seq (.ops [⟨(some 6), none, .move (.tmp 0)⟩, ⟨(some 7), none, .len (.tmp 6)⟩, ⟨(some 8), none, .bin .eql none (.tmp 7) (.const (.int .i64 0))⟩, ⟨(some 5), none, .move (.tmp 8)⟩])
    (.cond (.tmp 5) (.seq (.ops [⟨(some 2), none, .move (.const (.int .i64 4))⟩])
      .ret)
    (.seq (.ops [⟨(some 10), none, .move (.tmp 0)⟩, ⟨(some 11), none, .len (.tmp 10)⟩, ⟨(some 12), none, .bin .gtr none (.tmp 11) (.const (.int .i64 7))⟩, ⟨(some 9), none, .move (.tmp 12)⟩])
      (.cond (.tmp 9) (.seq (.ops [⟨(some 2), none, .move (.const (.int .i64 3))⟩])
        .ret)
      .skip)))))
  (.seq (.seq (.ops [⟨(some 13), none, .move (.tmp 0)⟩, ⟨(some 14), none, .len (.tmp 13)⟩, ⟨(some 15), none, .move (.const (.int .i64 0))⟩])
  (.block 1 (.loop true [13, 14, 15] lp75_0)))
  (.seq (.ops [⟨(some 2), none, .move (.const (.int .i64 0))⟩])
  .ret)))), [(2, none)]⟩
/-- headword/press.put -/
def lp77_0 : IC := (.seq (.ops [⟨(some 25), none, .bin .lss none (.tmp 24) (.tmp 23)⟩])
  (.seq (.cond (.tmp 25) .skip
  (.exit 1))
  (.seq (.block 2 (.seq (.ops [⟨(some 26), none, .move (.tmp 24)⟩, ⟨(some 27), none, .indexS 1 (.tmp 22) (.tmp 24)⟩, ⟨(some 28), none, .load 1 false (.tmp 27)⟩, ⟨(some 8), none, .move (.tmp 26)⟩, ⟨(some 9), none, .move (.tmp 28)⟩])
    (.seq (.block 3 (.seq (.ops [⟨(some 30), none, .move (.tmp 9)⟩, ⟨(some 31), none, .bin .lss none (.tmp 30) (.const (.int .i64 0))⟩, ⟨(some 32), none, .move (.tmp 31)⟩, ⟨(some 33), (some (32, false)), .move (.tmp 9)⟩, ⟨(some 34), (some (32, false)), .move (.tmp 0)⟩, ⟨(some 35), (some (32, false)), .len (.tmp 34)⟩, ⟨(some 36), (some (32, false)), .bin .geq none (.tmp 33) (.tmp 35)⟩, ⟨(some 37), none, .pick (.tmp 32) (.const (.bool true)) (.tmp 36)⟩, ⟨(some 29), none, .move (.tmp 37)⟩])
      (.cond (.tmp 29) (.seq (.ops [⟨(some 4), none, .move (.const (.slice none 0 0))⟩, ⟨(some 5), none, .move (.const (.int .i64 2))⟩])
        .ret)
      (.seq (.ops [⟨(some 39), none, .move (.tmp 1)⟩, ⟨(some 40), none, .move (.tmp 8)⟩, ⟨(some 41), none, .slice 1 (.tmp 39) none (some (.tmp 40)) none⟩, ⟨(some 42), none, .move (.tmp 9)⟩, ⟨(some 43), none, .call true 21 [(.tmp 41), (.tmp 42)]⟩, ⟨(some 38), none, .move (.tmp 43)⟩])
        (.cond (.tmp 38) (.seq (.ops [⟨(some 4), none, .move (.const (.slice none 0 0))⟩, ⟨(some 5), none, .move (.const (.int .i64 6))⟩])
          .ret)
        .skip)))))
    (.ops [⟨(some 44), none, .move (.tmp 7)⟩, ⟨(some 45), none, .move (.tmp 0)⟩, ⟨(some 46), none, .move (.tmp 9)⟩, ⟨(some 47), none, .indexS 2 (.tmp 45) (.tmp 46)⟩, ⟨(some 48), none, .load 2 true (.tmp 47)⟩, ⟨(some 49), none, .lit 2 true (.agg [(.v (.int .i64 0)), (.v (.int .i64 0))]) 1 [(0, (.tmp 48))]⟩, ⟨(some 50), none, .append 2 true (.tmp 44) (.tmp 49)⟩, ⟨(some 7), none, .move (.tmp 50)⟩]))))
  (.ops [⟨(some 51), none, .bin .add none (.tmp 24) (.const (.int .i64 1))⟩, ⟨(some 24), none, .move (.tmp 51)⟩]))))
def ir77 : IF := ⟨(.seq (.ops [⟨(some 4), none, .move (.const (.slice none 0 0))⟩, ⟨(some 5), none, .move (.const (.int .i64 0))⟩])
  (.seq (.seq (.ops [⟨(some 10), none, .move (.tmp 0)⟩, ⟨(some 11), none, .call true 75 [(.tmp 10)]⟩, ⟨(some 6), none, .move (.tmp 11)⟩])
  (.block 0 (.seq (.ops [⟨(some 13), none, .move (.tmp 6)⟩, ⟨(some 14), none, .bin .neq none (.tmp 13) (.const (.int .i64 0))⟩, ⟨(some 12), none, .move (.tmp 14)⟩])
    (.cond (.tmp 12) (.seq (.ops [⟨(some 15), none, .move (.tmp 6)⟩, ⟨(some 4), none, .move (.const (.slice none 0 0))⟩, ⟨(some 5), none, .move (.tmp 15)⟩])
      .ret)
    (.seq (.ops [⟨(some 17), none, .move (.tmp 1)⟩, ⟨(some 18), none, .len (.tmp 17)⟩, ⟨(some 19), none, .move (.tmp 0)⟩, ⟨(some 20), none, .len (.tmp 19)⟩, ⟨(some 21), none, .bin .neq none (.tmp 18) (.tmp 20)⟩, ⟨(some 16), none, .move (.tmp 21)⟩])
      (.cond (.tmp 16) (.seq (.ops [⟨(some 4), none, .move (.const (.slice none 0 0))⟩, ⟨(some 5), none, .move (.const (.int .i64 5))⟩])
        .ret)
      .skip))))))
  (.seq (.ops [⟨(some 7), none, .move (.const (.slice none 0 0))⟩])
  (.seq (.seq (.ops [⟨(some 22), none, .move (.tmp 1)⟩, ⟨(some 23), none, .len (.tmp 22)⟩, ⟨(some 24), none, .move (.const (.int .i64 0))⟩])
  (.block 1 (.loop true [0, 1, 7, 22, 23, 24] lp77_0)))
  (.seq (.ops [⟨(some 52), none, .move (.tmp 7)⟩, ⟨(some 4), none, .move (.tmp 52)⟩, ⟨(some 5), none, .move (.const (.int .i64 0))⟩])
  .ret))))), [(4, none), (5, none)]⟩
/-- headword/press.time -/
def ir78 : IF := ⟨(.seq (.ops [⟨(some 2), none, .move (.const (.int .i64 0))⟩])
  (.seq (.ops [⟨(some 4), none, .move (.tmp 0)⟩, ⟨(some 5), none, .call true 136 [(.tmp 4)]⟩, ⟨(some 3), none, .move (.tmp 5)⟩])
  (.seq (.ops [⟨(some 6), none, .move (.tmp 3)⟩, ⟨(some 7), none, .indexS 1 (.tmp 6) (.const (.int .i64 0))⟩, ⟨(some 8), none, .load 1 false (.tmp 7)⟩, ⟨(some 9), none, .move (.tmp 3)⟩, ⟨(some 10), none, .slice 1 (.tmp 9) (some (.const (.int .i64 1))) none none⟩, ⟨(some 11), none, .call true 137 [(.tmp 8), (.tmp 10)]⟩, ⟨(some 2), none, .move (.tmp 11)⟩])
  .ret))), [(2, none)]⟩
/-- headword/press.Rule -/
def ir79 : IF := ⟨(.seq (.ops [⟨(some 2), none, .move (.const (.slice none 0 0))⟩, ⟨(some 3), none, .move (.const (.int .i64 0))⟩])
  (.seq (.seq (.ops [⟨(some 5), none, .move (.tmp 0)⟩, ⟨(some 6), none, .call true 75 [(.tmp 5)]⟩, ⟨(some 4), none, .move (.tmp 6)⟩])
  (.seq (.ops [⟨(some 7), none, .move (.tmp 4)⟩, ⟨(some 8), none, .bin .neq none (.tmp 7) (.const (.int .i64 0))⟩])
  (.cond (.tmp 8) (.seq (.ops [⟨(some 9), none, .move (.tmp 4)⟩, ⟨(some 2), none, .move (.const (.slice none 0 0))⟩, ⟨(some 3), none, .move (.tmp 9)⟩])
    .ret)
  .skip)))
  (.seq (.ops [⟨(some 10), none, .move (.tmp 0)⟩, ⟨(some 11), none, .call true 138 [(.tmp 10)]⟩, ⟨(some 2), none, .move (.tmp 11)⟩, ⟨(some 3), none, .move (.const (.int .i64 0))⟩])
  .ret))), [(2, none), (3, none)]⟩
/-- headword/headwordtop.standsWork -/
def ir80 : IF := ⟨(.seq (.ops [⟨(some 0), none, .move (.const (.bool false))⟩])
  (.seq (.ops [⟨(some 4), none, .lit 1 false (.v (.int .i64 0)) 5 [(0, (.const (.int .i64 0))), (1, (.const (.int .i64 1))), (2, (.const (.int .i64 2))), (3, (.const (.int .i64 0))), (4, (.const (.int .i64 1)))]⟩, ⟨(some 5), none, .call true 15 [(.tmp 4)]⟩, ⟨(some 6), none, .build [(.v (.int .i64 0)), (.v (.slice none 0 0))] [(0, 1, (.const (.int .i64 2))), (1, 1, (.tmp 5))]⟩, ⟨(some 7), none, .call true 139 [(.tmp 6)]⟩, ⟨(some 3), none, .move (.tmp 7)⟩, ⟨(some 8), none, .extract 0 (.tmp 3)⟩, ⟨(some 9), none, .extract 1 (.tmp 3)⟩, ⟨(some 1), none, .move (.tmp 8)⟩, ⟨(some 2), none, .move (.tmp 9)⟩])
  (.seq (.ops [⟨(some 10), none, .move (.tmp 2)⟩, ⟨(some 11), none, .bin .eql none (.tmp 10) (.const (.int .i64 0))⟩, ⟨(some 12), none, .move (.tmp 11)⟩, ⟨(some 13), (some (12, true)), .move (.tmp 1)⟩, ⟨(some 14), (some (12, true)), .bin .eql none (.tmp 13) (.const (.int .i64 4))⟩, ⟨(some 15), none, .pick (.tmp 12) (.tmp 14) (.const (.bool false))⟩, ⟨(some 16), none, .move (.tmp 15)⟩, ⟨(some 17), (some (16, true)), .call true 140 []⟩, ⟨(some 18), none, .pick (.tmp 16) (.tmp 17) (.const (.bool false))⟩, ⟨(some 0), none, .move (.tmp 18)⟩])
  .ret))), [(0, none)]⟩
/-- headword/headwordtop.classesWork -/
def ir81 : IF := ⟨(.seq (.ops [⟨(some 0), none, .move (.const (.bool false))⟩])
  (.seq (.ops [⟨(some 4), none, .lit 1 false (.v (.int .i64 0)) 2 [(0, (.const (.int .i64 1))), (1, (.const (.int .i64 2)))]⟩, ⟨(some 5), none, .lit 1 false (.v (.int .i64 0)) 1 [(0, (.const (.int .i64 1)))]⟩, ⟨(some 6), none, .lit 1 false (.v (.int .i64 0)) 1 [(0, (.const (.int .i64 3)))]⟩, ⟨(some 7), none, .lit 1 false (.v (.slice none 0 0)) 3 [(0, (.tmp 4)), (1, (.tmp 5)), (2, (.tmp 6))]⟩, ⟨(some 8), none, .call true 43 [(.const (.int .i64 4)), (.tmp 7), (.const (.int .i64 0)), (.const (.int .i64 1))]⟩, ⟨(some 3), none, .move (.tmp 8)⟩, ⟨(some 9), none, .extract 0 (.tmp 3)⟩, ⟨(some 10), none, .extract 1 (.tmp 3)⟩, ⟨(some 1), none, .move (.tmp 9)⟩, ⟨(some 2), none, .move (.tmp 10)⟩])
  (.seq (.ops [⟨(some 11), none, .move (.tmp 2)⟩, ⟨(some 12), none, .bin .eql none (.tmp 11) (.const (.int .i64 0))⟩, ⟨(some 13), none, .move (.tmp 12)⟩, ⟨(some 14), (some (13, true)), .move (.tmp 1)⟩, ⟨(some 15), (some (13, true)), .bin .eql none (.tmp 14) (.const (.int .i64 2))⟩, ⟨(some 16), none, .pick (.tmp 13) (.tmp 15) (.const (.bool false))⟩, ⟨(some 17), none, .move (.tmp 16)⟩, ⟨(some 18), (some (17, true)), .call true 140 []⟩, ⟨(some 19), none, .pick (.tmp 17) (.tmp 18) (.const (.bool false))⟩, ⟨(some 20), none, .move (.tmp 19)⟩, ⟨(some 21), (some (20, true)), .call true 141 []⟩, ⟨(some 22), none, .pick (.tmp 20) (.tmp 21) (.const (.bool false))⟩, ⟨(some 0), none, .move (.tmp 22)⟩])
  .ret))), [(0, none)]⟩
/-- slices.IndexFunc[[]int,int] -/
def lp93_0 : IC := (.seq (.ops [⟨(some 9), none, .bin .lss none (.tmp 8) (.tmp 7)⟩])
  (.seq (.cond (.tmp 9) .skip
  (.exit 0))
  (.seq (.block 1 (.seq (.ops [⟨(some 10), none, .move (.tmp 8)⟩, ⟨(some 5), none, .move (.tmp 10)⟩])
    (.seq (.ops [⟨(some 11), none, .move (.tmp 1)⟩, ⟨(some 12), none, .move (.tmp 0)⟩, ⟨(some 13), none, .move (.tmp 5)⟩, ⟨(some 14), none, .indexS 1 (.tmp 12) (.tmp 13)⟩, ⟨(some 15), none, .load 1 false (.tmp 14)⟩, ⟨(some 16), none, .callv false (.tmp 11) [(.tmp 15)]⟩])
    (.cond (.tmp 16) (.seq (.ops [⟨(some 17), none, .move (.tmp 5)⟩, ⟨(some 4), none, .move (.tmp 17)⟩])
      .ret)
    .skip))))
  (.ops [⟨(some 18), none, .bin .add none (.tmp 8) (.const (.int .i64 1))⟩, ⟨(some 8), none, .move (.tmp 18)⟩]))))
def ir93 : IF := ⟨(.seq (.ops [⟨(some 4), none, .move (.const (.int .i64 0))⟩])
  (.seq (.seq (.ops [⟨(some 6), none, .move (.tmp 0)⟩, ⟨(some 7), none, .len (.tmp 6)⟩, ⟨(some 8), none, .move (.const (.int .i64 0))⟩])
  (.block 0 (.loop false [0, 1, 7, 8] lp93_0)))
  (.seq (.ops [⟨(some 4), none, .move (.const (.int .i64 (-1)))⟩])
  .ret))), [(4, none)]⟩
/-- slices.SortStableFunc[[]int,int] -/
def ir98 : IF := ⟨(.ops [⟨(some 4), none, .move (.tmp 0)⟩, ⟨(some 5), none, .move (.tmp 0)⟩, ⟨(some 6), none, .len (.tmp 5)⟩, ⟨(some 7), none, .move (.tmp 1)⟩, ⟨(some 8), none, .call false 150 [(.tmp 4), (.tmp 6), (.tmp 7)]⟩]), []⟩
/-- headword/class.opened -/
def lp102_0 : IC := (.seq (.ops [⟨(some 39), none, .bin .lss none (.tmp 38) (.tmp 37)⟩])
  (.seq (.cond (.tmp 39) .skip
  (.exit 3))
  (.seq (.block 4 (.seq (.ops [⟨(some 40), none, .move (.tmp 38)⟩, ⟨(some 41), none, .indexS 1 (.tmp 36) (.tmp 38)⟩, ⟨(some 42), none, .load 1 false (.tmp 41)⟩, ⟨(some 10), none, .move (.tmp 40)⟩, ⟨(some 11), none, .move (.tmp 42)⟩])
    (.block 5 (.seq (.ops [⟨(some 44), none, .move (.tmp 11)⟩, ⟨(some 45), none, .bin .lss none (.tmp 44) (.const (.int .i64 0))⟩, ⟨(some 46), none, .move (.tmp 45)⟩, ⟨(some 47), (some (46, false)), .move (.tmp 11)⟩, ⟨(some 48), (some (46, false)), .move (.tmp 0)⟩, ⟨(some 49), (some (46, false)), .bin .geq none (.tmp 47) (.tmp 48)⟩, ⟨(some 50), none, .pick (.tmp 46) (.const (.bool true)) (.tmp 49)⟩, ⟨(some 43), none, .move (.tmp 50)⟩])
      (.cond (.tmp 43) (.seq (.ops [⟨(some 4), none, .move (.const (.slice none 0 0))⟩, ⟨(some 5), none, .move (.const (.int .i64 2))⟩])
        .ret)
      (.seq (.ops [⟨(some 52), none, .move (.tmp 10)⟩, ⟨(some 53), none, .bin .gtr none (.tmp 52) (.const (.int .i64 0))⟩, ⟨(some 54), none, .move (.tmp 53)⟩, ⟨(some 55), (some (54, true)), .move (.tmp 11)⟩, ⟨(some 56), (some (54, true)), .move (.tmp 9)⟩, ⟨(some 57), (some (54, true)), .move (.tmp 10)⟩, ⟨(some 58), (some (54, true)), .bin .sub none (.tmp 57) (.const (.int .i64 1))⟩, ⟨(some 59), (some (54, true)), .indexS 1 (.tmp 56) (.tmp 58)⟩, ⟨(some 60), (some (54, true)), .load 1 false (.tmp 59)⟩, ⟨(some 61), (some (54, true)), .bin .leq none (.tmp 55) (.tmp 60)⟩, ⟨(some 62), none, .pick (.tmp 54) (.tmp 61) (.const (.bool false))⟩, ⟨(some 51), none, .move (.tmp 62)⟩])
        (.cond (.tmp 51) (.seq (.ops [⟨(some 4), none, .move (.const (.slice none 0 0))⟩, ⟨(some 5), none, .move (.const (.int .i64 7))⟩])
          .ret)
        .skip)))))))
  (.ops [⟨(some 63), none, .bin .add none (.tmp 38) (.const (.int .i64 1))⟩, ⟨(some 38), none, .move (.tmp 63)⟩]))))
def lp102_1 : IC := (.seq (.ops [⟨(some 30), none, .bin .lss none (.tmp 29) (.tmp 28)⟩])
  (.seq (.cond (.tmp 30) .skip
  (.exit 1))
  (.seq (.block 2 (.seq (.ops [⟨(some 31), none, .indexS 1 (.tmp 27) (.tmp 29)⟩, ⟨(some 32), none, .load 1 false (.tmp 31)⟩, ⟨(some 9), none, .move (.tmp 32)⟩])
    (.seq (.seq (.ops [⟨(some 33), none, .move (.tmp 9)⟩, ⟨(some 34), none, .len (.tmp 33)⟩, ⟨(some 35), none, .bin .eql none (.tmp 34) (.const (.int .i64 0))⟩])
    (.cond (.tmp 35) (.seq (.ops [⟨(some 4), none, .move (.const (.slice none 0 0))⟩, ⟨(some 5), none, .move (.const (.int .i64 4))⟩])
      .ret)
    .skip))
    (.seq (.seq (.ops [⟨(some 36), none, .move (.tmp 9)⟩, ⟨(some 37), none, .len (.tmp 36)⟩, ⟨(some 38), none, .move (.const (.int .i64 0))⟩])
    (.block 3 (.loop true [0, 6, 7, 9, 27, 28, 29, 36, 37, 38] lp102_0)))
    (.seq (.ops [⟨(some 64), none, .move (.tmp 9)⟩, ⟨(some 65), none, .call true 151 [(.tmp 64)]⟩, ⟨(some 12), none, .alloc [(.v (.int .u8 0))]⟩, ⟨none, none, .store 1 (.tmp 12) (.tmp 65)⟩])
    (.seq (.seq (.ops [⟨(some 66), none, .load 1 true (.tmp 12)⟩, ⟨(some 67), none, .call true 152 [(.tmp 66), (.const (.int .i64 0))]⟩])
    (.cond (.tmp 67) (.ops [⟨(some 68), none, .fieldAddr 0 (.tmp 12)⟩, ⟨(some 69), none, .load 1 false (.tmp 68)⟩, ⟨(some 70), none, .move (.tmp 6)⟩, ⟨(some 71), none, .bin .xor none (.tmp 69) (.tmp 70)⟩, ⟨(some 72), none, .fieldAddr 0 (.tmp 12)⟩, ⟨none, none, .store 1 (.tmp 72) (.tmp 71)⟩])
    .skip))
    (.seq (.block 6 (.seq (.ops [⟨(some 74), none, .fieldAddr 0 (.tmp 12)⟩, ⟨(some 75), none, .load 1 false (.tmp 74)⟩, ⟨(some 76), none, .bin .eql none (.tmp 75) (.const (.int .u8 0))⟩, ⟨(some 73), none, .move (.tmp 76)⟩])
      (.cond (.tmp 73) (.seq (.ops [⟨(some 4), none, .move (.const (.slice none 0 0))⟩, ⟨(some 5), none, .move (.const (.int .i64 5))⟩])
        .ret)
      (.seq (.ops [⟨(some 78), none, .move (.tmp 7)⟩, ⟨(some 79), none, .load 1 true (.tmp 12)⟩, ⟨(some 80), none, .callr 153 [(.tmp 78), (.tmp 79)]⟩, ⟨(some 77), none, .move (.tmp 80)⟩])
        (.cond (.tmp 77) (.seq (.ops [⟨(some 4), none, .move (.const (.slice none 0 0))⟩, ⟨(some 5), none, .move (.const (.int .i64 6))⟩])
          .ret)
        .skip)))))
    (.ops [⟨(some 81), none, .move (.tmp 7)⟩, ⟨(some 82), none, .load 1 true (.tmp 12)⟩, ⟨(some 83), none, .lit 1 true (.agg [(.v (.int .u8 0))]) 1 [(0, (.tmp 82))]⟩, ⟨(some 84), none, .appendm 1 true (.tmp 81) (.tmp 83)⟩, ⟨(some 7), none, .move (.tmp 84)⟩]))))))))
  (.ops [⟨(some 85), none, .bin .add none (.tmp 29) (.const (.int .i64 1))⟩, ⟨(some 29), none, .move (.tmp 85)⟩]))))
def ir102 : IF := ⟨(.seq (.ops [⟨(some 4), none, .move (.const (.slice none 0 0))⟩, ⟨(some 5), none, .move (.const (.int .i64 0))⟩])
  (.seq (.block 0 (.seq (.ops [⟨(some 14), none, .move (.tmp 0)⟩, ⟨(some 15), none, .bin .lss none (.tmp 14) (.const (.int .i64 2))⟩, ⟨(some 16), none, .move (.tmp 15)⟩, ⟨(some 17), (some (16, false)), .move (.tmp 0)⟩, ⟨(some 18), (some (16, false)), .bin .gtr none (.tmp 17) (.const (.int .i64 8))⟩, ⟨(some 19), none, .pick (.tmp 16) (.const (.bool true)) (.tmp 18)⟩, ⟨(some 13), none, .move (.tmp 19)⟩])
    (.cond (.tmp 13) (.seq (.ops [⟨(some 4), none, .move (.const (.slice none 0 0))⟩, ⟨(some 5), none, .move (.const (.int .i64 1))⟩])
      .ret)
    (.seq (.ops [⟨(some 21), none, .move (.tmp 1)⟩, ⟨(some 22), none, .len (.tmp 21)⟩, ⟨(some 23), none, .bin .gtr none (.tmp 22) (.const (.int .i64 13))⟩, ⟨(some 20), none, .move (.tmp 23)⟩])
      (.cond (.tmp 20) (.seq (.ops [⟨(some 4), none, .move (.const (.slice none 0 0))⟩, ⟨(some 5), none, .move (.const (.int .i64 3))⟩])
        .ret)
      .skip)))))
  (.seq (.ops [⟨(some 24), none, .move (.tmp 0)⟩, ⟨(some 25), none, .bin .shl none (.const (.int .u8 1)) (.tmp 24)⟩, ⟨(some 26), none, .bin .sub none (.tmp 25) (.const (.int .u8 1))⟩, ⟨(some 6), none, .move (.tmp 26)⟩])
  (.seq (.ops [⟨(some 7), none, .move (.const (.slice none 0 0))⟩])
  (.seq (.seq (.ops [⟨(some 27), none, .move (.tmp 1)⟩, ⟨(some 28), none, .len (.tmp 27)⟩, ⟨(some 29), none, .move (.const (.int .i64 0))⟩])
  (.block 1 (.loop true [0, 6, 7, 27, 28, 29, 3000000] lp102_1)))
  (.seq (.ops [⟨(some 86), none, .move (.tmp 7)⟩, ⟨(some 4), none, .move (.tmp 86)⟩, ⟨(some 5), none, .move (.const (.int .i64 0))⟩])
  .ret)))))), [(4, none), (5, none)]⟩
/-- headword/class.parted -/
def lp104_0 : IC := (.seq (.ops [⟨(some 13), none, .bin .lss none (.tmp 12) (.tmp 11)⟩])
  (.seq (.cond (.tmp 13) .skip
  (.exit 0))
  (.seq (.block 1 (.seq (.ops [⟨(some 14), none, .indexS 1 (.tmp 10) (.tmp 12)⟩, ⟨(some 15), none, .load 1 true (.tmp 14)⟩, ⟨(some 9), none, .alloc [(.v (.int .u8 0))]⟩, ⟨none, none, .store 1 (.tmp 9) (.tmp 15)⟩])
    (.seq (.ops [⟨(some 16), none, .load 1 true (.tmp 9)⟩, ⟨(some 17), none, .move (.tmp 1)⟩, ⟨(some 18), none, .call true 152 [(.tmp 16), (.tmp 17)]⟩, ⟨(some 19), none, .load 1 true (.tmp 9)⟩, ⟨(some 20), none, .move (.tmp 2)⟩, ⟨(some 21), none, .call true 152 [(.tmp 19), (.tmp 20)]⟩, ⟨(some 22), none, .bin .neq (some 1) (.tmp 18) (.tmp 21)⟩])
    (.cond (.tmp 22) (.ops [⟨(some 23), none, .move (.tmp 7)⟩, ⟨(some 24), none, .bin .add none (.tmp 23) (.const (.int .i64 1))⟩, ⟨(some 7), none, .move (.tmp 24)⟩])
    .skip))))
  (.ops [⟨(some 25), none, .bin .add none (.tmp 12) (.const (.int .i64 1))⟩, ⟨(some 12), none, .move (.tmp 25)⟩]))))
def ir104 : IF := ⟨(.seq (.ops [⟨(some 6), none, .move (.const (.int .i64 0))⟩])
  (.seq (.ops [⟨(some 7), none, .move (.const (.int .i64 0))⟩])
  (.seq (.seq (.ops [⟨(some 10), none, .move (.tmp 0)⟩, ⟨(some 11), none, .len (.tmp 10)⟩, ⟨(some 12), none, .move (.const (.int .i64 0))⟩])
  (.block 0 (.loop true [1, 2, 7, 10, 11, 12] lp104_0)))
  (.seq (.ops [⟨(some 26), none, .move (.tmp 7)⟩, ⟨(some 6), none, .move (.tmp 26)⟩])
  .ret)))), [(6, none)]⟩
/-- slices.ContainsFunc[[]int,int] -/
def ir112 : IF := ⟨(.seq (.ops [⟨(some 4), none, .move (.const (.bool false))⟩])
  (.seq (.ops [⟨(some 5), none, .move (.tmp 0)⟩, ⟨(some 6), none, .move (.tmp 1)⟩, ⟨(some 7), none, .call false 93 [(.tmp 5), (.tmp 6)]⟩, ⟨(some 8), none, .bin .geq none (.tmp 7) (.const (.int .i64 0))⟩, ⟨(some 4), none, .move (.tmp 8)⟩])
  .ret)), [(4, none)]⟩
/-- slices.Contains[[][2]int,[2]int] -/
def ir121 : IF := ⟨(.seq (.ops [⟨(some 3), none, .box (.tmp 1)⟩, ⟨(some 4), none, .move (.const (.bool false))⟩])
  (.seq (.ops [⟨(some 5), none, .move (.tmp 0)⟩, ⟨(some 6), none, .load 2 true (.tmp 3)⟩, ⟨(some 7), none, .call true 162 [(.tmp 5), (.tmp 6)]⟩, ⟨(some 8), none, .bin .geq none (.tmp 7) (.const (.int .i64 0))⟩, ⟨(some 4), none, .move (.tmp 8)⟩])
  .ret)), [(4, none)]⟩
/-- headword/fact.list -/
def lp122_0 : IC := (.seq (.seq (.ops [⟨(some 4), none, .move (.tmp 0)⟩, ⟨(some 5), none, .bin .neq none (.tmp 4) (.const (.int .u64 0))⟩])
  (.cond (.tmp 5) .skip
  (.exit 0)))
  (.seq (.block 1 (.ops [⟨(some 10), none, .move (.tmp 3)⟩, ⟨(some 11), none, .move (.tmp 0)⟩, ⟨(some 12), none, .call true 125 [(.tmp 11)]⟩, ⟨(some 13), none, .lit 1 false (.v (.int .i64 0)) 1 [(0, (.tmp 12))]⟩, ⟨(some 14), none, .append 1 true (.tmp 10) (.tmp 13)⟩, ⟨(some 3), none, .move (.tmp 14)⟩]))
  (.ops [⟨(some 6), none, .move (.tmp 0)⟩, ⟨(some 7), none, .move (.tmp 0)⟩, ⟨(some 8), none, .bin .sub none (.tmp 7) (.const (.int .u64 1))⟩, ⟨(some 9), none, .bin .and none (.tmp 6) (.tmp 8)⟩, ⟨(some 0), none, .move (.tmp 9)⟩])))
def ir122 : IF := ⟨(.seq (.ops [⟨(some 2), none, .move (.const (.slice none 0 0))⟩])
  (.seq (.ops [⟨(some 3), none, .move (.const (.slice none 0 0))⟩])
  (.seq (.block 0 (.loop true [0, 3] lp122_0))
  (.seq (.ops [⟨(some 15), none, .move (.tmp 3)⟩, ⟨(some 2), none, .move (.tmp 15)⟩])
  .ret)))), [(2, none)]⟩
/-- math/bits.TrailingZeros -/
def ir125 : IF := ⟨(.seq (.ops [⟨(some 2), none, .move (.const (.int .i64 0))⟩])
  (.seq (.cond (.const (.bool false)) (.seq (.ops [⟨(some 3), none, .move (.tmp 0)⟩, ⟨(some 4), none, .conv .u32 (.tmp 3)⟩, ⟨(some 5), none, .call true 163 [(.tmp 4)]⟩, ⟨(some 2), none, .move (.tmp 5)⟩])
    .ret)
  .skip)
  (.seq (.ops [⟨(some 6), none, .move (.tmp 0)⟩, ⟨(some 7), none, .call true 164 [(.tmp 6)]⟩, ⟨(some 2), none, .move (.tmp 7)⟩])
  .ret))), [(2, none)]⟩
/-- math/bits.OnesCount32 -/
def ir126 : IF := ⟨(.seq (.ops [⟨(some 2), none, .move (.const (.int .i64 0))⟩])
  (.seq (.ops [⟨(some 3), none, .move (.tmp 0)⟩, ⟨(some 4), none, .bin .shr none (.tmp 3) (.const (.int .u64 24))⟩, ⟨(some 5), none, .indexStr (.const (.string ⟨#[0, 1, 1, 2, 1, 2, 2, 3, 1, 2, 2, 3, 2, 3, 3, 4, 1, 2, 2, 3, 2, 3, 3, 4, 2, 3, 3, 4, 3, 4, 4, 5, 1, 2, 2, 3, 2, 3, 3, 4, 2, 3, 3, 4, 3, 4, 4, 5, 2, 3, 3, 4, 3, 4, 4, 5, 3, 4, 4, 5, 4, 5, 5, 6, 1, 2, 2, 3, 2, 3, 3, 4, 2, 3, 3, 4, 3, 4, 4, 5, 2, 3, 3, 4, 3, 4, 4, 5, 3, 4, 4, 5, 4, 5, 5, 6, 2, 3, 3, 4, 3, 4, 4, 5, 3, 4, 4, 5, 4, 5, 5, 6, 3, 4, 4, 5, 4, 5, 5, 6, 4, 5, 5, 6, 5, 6, 6, 7, 1, 2, 2, 3, 2, 3, 3, 4, 2, 3, 3, 4, 3, 4, 4, 5, 2, 3, 3, 4, 3, 4, 4, 5, 3, 4, 4, 5, 4, 5, 5, 6, 2, 3, 3, 4, 3, 4, 4, 5, 3, 4, 4, 5, 4, 5, 5, 6, 3, 4, 4, 5, 4, 5, 5, 6, 4, 5, 5, 6, 5, 6, 6, 7, 2, 3, 3, 4, 3, 4, 4, 5, 3, 4, 4, 5, 4, 5, 5, 6, 3, 4, 4, 5, 4, 5, 5, 6, 4, 5, 5, 6, 5, 6, 6, 7, 3, 4, 4, 5, 4, 5, 5, 6, 4, 5, 5, 6, 5, 6, 6, 7, 4, 5, 5, 6, 5, 6, 6, 7, 5, 6, 6, 7, 6, 7, 7, 8]⟩)) (.tmp 4)⟩, ⟨(some 6), none, .move (.tmp 0)⟩, ⟨(some 7), none, .bin .shr none (.tmp 6) (.const (.int .u64 16))⟩, ⟨(some 8), none, .bin .and none (.tmp 7) (.const (.int .u32 255))⟩, ⟨(some 9), none, .indexStr (.const (.string ⟨#[0, 1, 1, 2, 1, 2, 2, 3, 1, 2, 2, 3, 2, 3, 3, 4, 1, 2, 2, 3, 2, 3, 3, 4, 2, 3, 3, 4, 3, 4, 4, 5, 1, 2, 2, 3, 2, 3, 3, 4, 2, 3, 3, 4, 3, 4, 4, 5, 2, 3, 3, 4, 3, 4, 4, 5, 3, 4, 4, 5, 4, 5, 5, 6, 1, 2, 2, 3, 2, 3, 3, 4, 2, 3, 3, 4, 3, 4, 4, 5, 2, 3, 3, 4, 3, 4, 4, 5, 3, 4, 4, 5, 4, 5, 5, 6, 2, 3, 3, 4, 3, 4, 4, 5, 3, 4, 4, 5, 4, 5, 5, 6, 3, 4, 4, 5, 4, 5, 5, 6, 4, 5, 5, 6, 5, 6, 6, 7, 1, 2, 2, 3, 2, 3, 3, 4, 2, 3, 3, 4, 3, 4, 4, 5, 2, 3, 3, 4, 3, 4, 4, 5, 3, 4, 4, 5, 4, 5, 5, 6, 2, 3, 3, 4, 3, 4, 4, 5, 3, 4, 4, 5, 4, 5, 5, 6, 3, 4, 4, 5, 4, 5, 5, 6, 4, 5, 5, 6, 5, 6, 6, 7, 2, 3, 3, 4, 3, 4, 4, 5, 3, 4, 4, 5, 4, 5, 5, 6, 3, 4, 4, 5, 4, 5, 5, 6, 4, 5, 5, 6, 5, 6, 6, 7, 3, 4, 4, 5, 4, 5, 5, 6, 4, 5, 5, 6, 5, 6, 6, 7, 4, 5, 5, 6, 5, 6, 6, 7, 5, 6, 6, 7, 6, 7, 7, 8]⟩)) (.tmp 8)⟩, ⟨(some 10), none, .bin .add none (.tmp 5) (.tmp 9)⟩, ⟨(some 11), none, .move (.tmp 0)⟩, ⟨(some 12), none, .bin .shr none (.tmp 11) (.const (.int .u64 8))⟩, ⟨(some 13), none, .bin .and none (.tmp 12) (.const (.int .u32 255))⟩, ⟨(some 14), none, .indexStr (.const (.string ⟨#[0, 1, 1, 2, 1, 2, 2, 3, 1, 2, 2, 3, 2, 3, 3, 4, 1, 2, 2, 3, 2, 3, 3, 4, 2, 3, 3, 4, 3, 4, 4, 5, 1, 2, 2, 3, 2, 3, 3, 4, 2, 3, 3, 4, 3, 4, 4, 5, 2, 3, 3, 4, 3, 4, 4, 5, 3, 4, 4, 5, 4, 5, 5, 6, 1, 2, 2, 3, 2, 3, 3, 4, 2, 3, 3, 4, 3, 4, 4, 5, 2, 3, 3, 4, 3, 4, 4, 5, 3, 4, 4, 5, 4, 5, 5, 6, 2, 3, 3, 4, 3, 4, 4, 5, 3, 4, 4, 5, 4, 5, 5, 6, 3, 4, 4, 5, 4, 5, 5, 6, 4, 5, 5, 6, 5, 6, 6, 7, 1, 2, 2, 3, 2, 3, 3, 4, 2, 3, 3, 4, 3, 4, 4, 5, 2, 3, 3, 4, 3, 4, 4, 5, 3, 4, 4, 5, 4, 5, 5, 6, 2, 3, 3, 4, 3, 4, 4, 5, 3, 4, 4, 5, 4, 5, 5, 6, 3, 4, 4, 5, 4, 5, 5, 6, 4, 5, 5, 6, 5, 6, 6, 7, 2, 3, 3, 4, 3, 4, 4, 5, 3, 4, 4, 5, 4, 5, 5, 6, 3, 4, 4, 5, 4, 5, 5, 6, 4, 5, 5, 6, 5, 6, 6, 7, 3, 4, 4, 5, 4, 5, 5, 6, 4, 5, 5, 6, 5, 6, 6, 7, 4, 5, 5, 6, 5, 6, 6, 7, 5, 6, 6, 7, 6, 7, 7, 8]⟩)) (.tmp 13)⟩, ⟨(some 15), none, .bin .add none (.tmp 10) (.tmp 14)⟩, ⟨(some 16), none, .move (.tmp 0)⟩, ⟨(some 17), none, .bin .and none (.tmp 16) (.const (.int .u32 255))⟩, ⟨(some 18), none, .indexStr (.const (.string ⟨#[0, 1, 1, 2, 1, 2, 2, 3, 1, 2, 2, 3, 2, 3, 3, 4, 1, 2, 2, 3, 2, 3, 3, 4, 2, 3, 3, 4, 3, 4, 4, 5, 1, 2, 2, 3, 2, 3, 3, 4, 2, 3, 3, 4, 3, 4, 4, 5, 2, 3, 3, 4, 3, 4, 4, 5, 3, 4, 4, 5, 4, 5, 5, 6, 1, 2, 2, 3, 2, 3, 3, 4, 2, 3, 3, 4, 3, 4, 4, 5, 2, 3, 3, 4, 3, 4, 4, 5, 3, 4, 4, 5, 4, 5, 5, 6, 2, 3, 3, 4, 3, 4, 4, 5, 3, 4, 4, 5, 4, 5, 5, 6, 3, 4, 4, 5, 4, 5, 5, 6, 4, 5, 5, 6, 5, 6, 6, 7, 1, 2, 2, 3, 2, 3, 3, 4, 2, 3, 3, 4, 3, 4, 4, 5, 2, 3, 3, 4, 3, 4, 4, 5, 3, 4, 4, 5, 4, 5, 5, 6, 2, 3, 3, 4, 3, 4, 4, 5, 3, 4, 4, 5, 4, 5, 5, 6, 3, 4, 4, 5, 4, 5, 5, 6, 4, 5, 5, 6, 5, 6, 6, 7, 2, 3, 3, 4, 3, 4, 4, 5, 3, 4, 4, 5, 4, 5, 5, 6, 3, 4, 4, 5, 4, 5, 5, 6, 4, 5, 5, 6, 5, 6, 6, 7, 3, 4, 4, 5, 4, 5, 5, 6, 4, 5, 5, 6, 5, 6, 6, 7, 4, 5, 5, 6, 5, 6, 6, 7, 5, 6, 6, 7, 6, 7, 7, 8]⟩)) (.tmp 17)⟩, ⟨(some 19), none, .bin .add none (.tmp 15) (.tmp 18)⟩, ⟨(some 20), none, .conv .i64 (.tmp 19)⟩, ⟨(some 2), none, .move (.tmp 20)⟩])
  .ret)), [(2, none)]⟩
/-- math/bits.OnesCount64 -/
def ir127 : IF := ⟨(.seq (.ops [⟨(some 2), none, .move (.const (.int .i64 0))⟩])
  (.seq (.ops [⟨(some 3), none, .move (.tmp 0)⟩, ⟨(some 4), none, .bin .shr none (.tmp 3) (.const (.int .u64 1))⟩, ⟨(some 5), none, .bin .and none (.tmp 4) (.const (.int .u64 6148914691236517205))⟩, ⟨(some 6), none, .move (.tmp 0)⟩, ⟨(some 7), none, .bin .and none (.tmp 6) (.const (.int .u64 6148914691236517205))⟩, ⟨(some 8), none, .bin .add none (.tmp 5) (.tmp 7)⟩, ⟨(some 0), none, .move (.tmp 8)⟩])
  (.seq (.ops [⟨(some 9), none, .move (.tmp 0)⟩, ⟨(some 10), none, .bin .shr none (.tmp 9) (.const (.int .u64 2))⟩, ⟨(some 11), none, .bin .and none (.tmp 10) (.const (.int .u64 3689348814741910323))⟩, ⟨(some 12), none, .move (.tmp 0)⟩, ⟨(some 13), none, .bin .and none (.tmp 12) (.const (.int .u64 3689348814741910323))⟩, ⟨(some 14), none, .bin .add none (.tmp 11) (.tmp 13)⟩, ⟨(some 0), none, .move (.tmp 14)⟩])
  (.seq (.ops [⟨(some 15), none, .move (.tmp 0)⟩, ⟨(some 16), none, .bin .shr none (.tmp 15) (.const (.int .u64 4))⟩, ⟨(some 17), none, .move (.tmp 0)⟩, ⟨(some 18), none, .bin .add none (.tmp 16) (.tmp 17)⟩, ⟨(some 19), none, .bin .and none (.tmp 18) (.const (.int .u64 1085102592571150095))⟩, ⟨(some 0), none, .move (.tmp 19)⟩])
  (.seq (.ops [⟨(some 20), none, .move (.tmp 0)⟩, ⟨(some 21), none, .move (.tmp 0)⟩, ⟨(some 22), none, .bin .shr none (.tmp 21) (.const (.int .u64 8))⟩, ⟨(some 23), none, .bin .add none (.tmp 20) (.tmp 22)⟩, ⟨(some 0), none, .move (.tmp 23)⟩])
  (.seq (.ops [⟨(some 24), none, .move (.tmp 0)⟩, ⟨(some 25), none, .move (.tmp 0)⟩, ⟨(some 26), none, .bin .shr none (.tmp 25) (.const (.int .u64 16))⟩, ⟨(some 27), none, .bin .add none (.tmp 24) (.tmp 26)⟩, ⟨(some 0), none, .move (.tmp 27)⟩])
  (.seq (.ops [⟨(some 28), none, .move (.tmp 0)⟩, ⟨(some 29), none, .move (.tmp 0)⟩, ⟨(some 30), none, .bin .shr none (.tmp 29) (.const (.int .u64 32))⟩, ⟨(some 31), none, .bin .add none (.tmp 28) (.tmp 30)⟩, ⟨(some 0), none, .move (.tmp 31)⟩])
  (.seq (.ops [⟨(some 32), none, .move (.tmp 0)⟩, ⟨(some 33), none, .conv .i64 (.tmp 32)⟩, ⟨(some 34), none, .bin .and none (.tmp 33) (.const (.int .i64 127))⟩, ⟨(some 2), none, .move (.tmp 34)⟩])
  .ret)))))))), [(2, none)]⟩
/-- cmp.Compare[int] -/
def ir128 : IF := ⟨(.seq (.ops [⟨(some 4), none, .move (.const (.int .i64 0))⟩])
  (.seq (.ops [⟨(some 7), none, .move (.tmp 0)⟩, ⟨(some 8), none, .call true 165 [(.tmp 7)]⟩, ⟨(some 5), none, .move (.tmp 8)⟩])
  (.seq (.ops [⟨(some 9), none, .move (.tmp 1)⟩, ⟨(some 10), none, .call true 165 [(.tmp 9)]⟩, ⟨(some 6), none, .move (.tmp 10)⟩])
  (.seq (.seq (.ops [⟨(some 11), none, .move (.tmp 5)⟩])
  (.cond (.tmp 11) (.seq (.seq (.ops [⟨(some 12), none, .move (.tmp 6)⟩])
    (.cond (.tmp 12) (.seq (.ops [⟨(some 4), none, .move (.const (.int .i64 0))⟩])
      .ret)
    .skip))
    (.seq (.ops [⟨(some 4), none, .move (.const (.int .i64 (-1)))⟩])
    .ret))
  .skip))
  (.seq (.seq (.ops [⟨(some 13), none, .move (.tmp 6)⟩])
  (.cond (.tmp 13) (.seq (.ops [⟨(some 4), none, .move (.const (.int .i64 1))⟩])
    .ret)
  .skip))
  (.seq (.seq (.ops [⟨(some 14), none, .move (.tmp 0)⟩, ⟨(some 15), none, .move (.tmp 1)⟩, ⟨(some 16), none, .bin .lss none (.tmp 14) (.tmp 15)⟩])
  (.cond (.tmp 16) (.seq (.ops [⟨(some 4), none, .move (.const (.int .i64 (-1)))⟩])
    .ret)
  .skip))
  (.seq (.seq (.ops [⟨(some 17), none, .move (.tmp 0)⟩, ⟨(some 18), none, .move (.tmp 1)⟩, ⟨(some 19), none, .bin .gtr none (.tmp 17) (.tmp 18)⟩])
  (.cond (.tmp 19) (.seq (.ops [⟨(some 4), none, .move (.const (.int .i64 1))⟩])
    .ret)
  .skip))
  (.seq (.ops [⟨(some 4), none, .move (.const (.int .i64 0))⟩])
  .ret)))))))), [(4, none)]⟩
/-- slices.ContainsFunc[[][2]int,[2]int] -/
def ir129 : IF := ⟨(.seq (.ops [⟨(some 4), none, .move (.const (.bool false))⟩])
  (.seq (.ops [⟨(some 5), none, .move (.tmp 0)⟩, ⟨(some 6), none, .move (.tmp 1)⟩, ⟨(some 7), none, .call false 166 [(.tmp 5), (.tmp 6)]⟩, ⟨(some 8), none, .bin .geq none (.tmp 7) (.const (.int .i64 0))⟩, ⟨(some 4), none, .move (.tmp 8)⟩])
  .ret)), [(4, none)]⟩
/-- (headword/fact.Book).explained$1 -/
def ir130 : IF := ⟨(.seq (.ops [⟨(some 2), none, .box (.tmp 0)⟩, ⟨(some 3), none, .move (.const (.bool false))⟩])
  (.seq (.ops [⟨(some 4), none, .load 1 false (.tmp 1)⟩, ⟨(some 5), none, .indexA 2 1 (.tmp 2) (.const (.int .i64 0))⟩, ⟨(some 6), none, .load 1 false (.tmp 5)⟩, ⟨(some 7), none, .bin .shr none (.tmp 4) (.tmp 6)⟩, ⟨(some 8), none, .bin .and none (.tmp 7) (.const (.int .u64 1))⟩, ⟨(some 9), none, .bin .eql none (.tmp 8) (.const (.int .u64 0))⟩, ⟨(some 10), none, .move (.tmp 9)⟩, ⟨(some 11), (some (10, true)), .load 1 false (.tmp 1)⟩, ⟨(some 12), (some (10, true)), .indexA 2 1 (.tmp 2) (.const (.int .i64 1))⟩, ⟨(some 13), (some (10, true)), .load 1 false (.tmp 12)⟩, ⟨(some 14), (some (10, true)), .bin .shr none (.tmp 11) (.tmp 13)⟩, ⟨(some 15), (some (10, true)), .bin .and none (.tmp 14) (.const (.int .u64 1))⟩, ⟨(some 16), (some (10, true)), .bin .eql none (.tmp 15) (.const (.int .u64 0))⟩, ⟨(some 17), none, .pick (.tmp 10) (.tmp 16) (.const (.bool false))⟩, ⟨(some 3), none, .move (.tmp 17)⟩])
  .ret)), [(3, none)]⟩
/-- headword/quire.written -/
def ir131 : IF := ⟨(.seq (.ops [⟨(some 6), none, .move (.const (.int .i64 0))⟩])
  (.seq (.block 0 (.seq (.ops [⟨(some 8), none, .move (.tmp 0)⟩, ⟨(some 9), none, .lenStr (.tmp 8)⟩, ⟨(some 10), none, .move (.tmp 1)⟩, ⟨(some 11), none, .bin .gtr none (.tmp 9) (.tmp 10)⟩, ⟨(some 7), none, .move (.tmp 11)⟩])
    (.cond (.tmp 7) (.seq (.ops [⟨(some 6), none, .move (.const (.int .i64 19))⟩])
      .ret)
    (.seq (.ops [⟨(some 13), none, .move (.tmp 0)⟩, ⟨(some 14), none, .move (.tmp 2)⟩, ⟨(some 15), none, .call true 167 [(.tmp 13), (.tmp 14)]⟩, ⟨(some 16), none, .bin .neq none (.tmp 15) (.const (.string ⟨#[]⟩))⟩, ⟨(some 12), none, .move (.tmp 16)⟩])
      (.cond (.tmp 12) (.seq (.ops [⟨(some 6), none, .move (.const (.int .i64 10))⟩])
        .ret)
      .skip)))))
  (.seq (.ops [⟨(some 6), none, .move (.const (.int .i64 0))⟩])
  .ret))), [(6, none)]⟩
/-- (*sync/atomic.Bool).Load -/
def ir132 : IF := ⟨(.seq (.ops [⟨(some 2), none, .move (.const (.bool false))⟩])
  (.seq (.ops [⟨(some 3), none, .move (.tmp 0)⟩, ⟨(some 4), none, .nil (.tmp 3)⟩, ⟨(some 5), none, .fieldAddr 0 (.tmp 4)⟩, ⟨(some 6), none, .call false 168 [(.tmp 5)]⟩, ⟨(some 7), none, .bin .neq none (.tmp 6) (.const (.int .u32 0))⟩, ⟨(some 2), none, .move (.tmp 7)⟩])
  .ret)), [(2, none)]⟩
/-- (*strings.Replacer).build -/
def lp134_0 : IC := (.seq (.seq (.ops [⟨(some 37), none, .move (.tmp 5)⟩, ⟨(some 38), none, .move (.tmp 3)⟩, ⟨(some 39), none, .len (.tmp 38)⟩, ⟨(some 40), none, .bin .lss none (.tmp 37) (.tmp 39)⟩])
  (.cond (.tmp 40) .skip
  (.exit 0)))
  (.seq (.block 1 (.seq (.seq (.ops [⟨(some 43), none, .move (.tmp 3)⟩, ⟨(some 44), none, .move (.tmp 5)⟩, ⟨(some 45), none, .indexS 1 (.tmp 43) (.tmp 44)⟩, ⟨(some 46), none, .load 1 false (.tmp 45)⟩, ⟨(some 47), none, .lenStr (.tmp 46)⟩, ⟨(some 48), none, .bin .neq none (.tmp 47) (.const (.int .i64 1))⟩])
    (.cond (.tmp 48) (.seq (.ops [⟨(some 49), none, .move (.tmp 3)⟩, ⟨(some 50), none, .call true 173 [(.tmp 49)]⟩, ⟨(some 51), none, .iface 238 (.tmp 50)⟩, ⟨(some 2), none, .move (.tmp 51)⟩])
      .ret)
    .skip))
    (.seq (.ops [⟨(some 52), none, .move (.tmp 3)⟩, ⟨(some 53), none, .move (.tmp 5)⟩, ⟨(some 54), none, .bin .add none (.tmp 53) (.const (.int .i64 1))⟩, ⟨(some 55), none, .indexS 1 (.tmp 52) (.tmp 54)⟩, ⟨(some 56), none, .load 1 false (.tmp 55)⟩, ⟨(some 57), none, .lenStr (.tmp 56)⟩, ⟨(some 58), none, .bin .neq none (.tmp 57) (.const (.int .i64 1))⟩])
    (.cond (.tmp 58) (.ops [⟨(some 4), none, .move (.const (.bool false))⟩])
    .skip))))
  (.ops [⟨(some 41), none, .move (.tmp 5)⟩, ⟨(some 42), none, .bin .add none (.tmp 41) (.const (.int .i64 2))⟩, ⟨(some 5), none, .move (.tmp 42)⟩])))
def lp134_1 : IC := (.seq (.ops [⟨(some 62), none, .bin .lss none (.tmp 61) (.const (.int .i64 256))⟩])
  (.seq (.cond (.tmp 62) .skip
  (.exit 2))
  (.seq (.block 3 (.seq (.ops [⟨(some 63), none, .move (.tmp 61)⟩, ⟨(some 7), none, .move (.tmp 63)⟩])
    (.ops [⟨(some 64), none, .move (.tmp 7)⟩, ⟨(some 65), none, .move (.tmp 7)⟩, ⟨(some 66), none, .conv .u8 (.tmp 65)⟩, ⟨(some 67), none, .indexA 256 1 (.tmp 6) (.tmp 64)⟩, ⟨none, none, .store 1 (.tmp 67) (.tmp 66)⟩])))
  (.ops [⟨(some 68), none, .bin .add none (.tmp 61) (.const (.int .i64 1))⟩, ⟨(some 61), none, .move (.tmp 68)⟩]))))
def lp134_2 : IC := (.seq (.seq (.ops [⟨(some 72), none, .move (.tmp 8)⟩, ⟨(some 73), none, .bin .geq none (.tmp 72) (.const (.int .i64 0))⟩])
  (.cond (.tmp 73) .skip
  (.exit 4)))
  (.seq (.block 5 (.seq (.ops [⟨(some 76), none, .move (.tmp 3)⟩, ⟨(some 77), none, .move (.tmp 8)⟩, ⟨(some 78), none, .indexS 1 (.tmp 76) (.tmp 77)⟩, ⟨(some 79), none, .load 1 false (.tmp 78)⟩, ⟨(some 80), none, .indexStr (.tmp 79) (.const (.int .i64 0))⟩, ⟨(some 9), none, .move (.tmp 80)⟩])
    (.seq (.ops [⟨(some 81), none, .move (.tmp 3)⟩, ⟨(some 82), none, .move (.tmp 8)⟩, ⟨(some 83), none, .bin .add none (.tmp 82) (.const (.int .i64 1))⟩, ⟨(some 84), none, .indexS 1 (.tmp 81) (.tmp 83)⟩, ⟨(some 85), none, .load 1 false (.tmp 84)⟩, ⟨(some 86), none, .indexStr (.tmp 85) (.const (.int .i64 0))⟩, ⟨(some 10), none, .move (.tmp 86)⟩])
    (.ops [⟨(some 87), none, .move (.tmp 9)⟩, ⟨(some 88), none, .move (.tmp 10)⟩, ⟨(some 89), none, .indexA 256 1 (.tmp 6) (.tmp 87)⟩, ⟨none, none, .store 1 (.tmp 89) (.tmp 88)⟩]))))
  (.ops [⟨(some 74), none, .move (.tmp 8)⟩, ⟨(some 75), none, .bin .sub none (.tmp 74) (.const (.int .i64 2))⟩, ⟨(some 8), none, .move (.tmp 75)⟩])))
def lp134_3 : IC := (.seq (.seq (.ops [⟨(some 99), none, .move (.tmp 12)⟩, ⟨(some 100), none, .bin .geq none (.tmp 99) (.const (.int .i64 0))⟩])
  (.cond (.tmp 100) .skip
  (.exit 6)))
  (.seq (.block 7 (.seq (.ops [⟨(some 103), none, .move (.tmp 3)⟩, ⟨(some 104), none, .move (.tmp 12)⟩, ⟨(some 105), none, .indexS 1 (.tmp 103) (.tmp 104)⟩, ⟨(some 106), none, .load 1 false (.tmp 105)⟩, ⟨(some 107), none, .indexStr (.tmp 106) (.const (.int .i64 0))⟩, ⟨(some 13), none, .move (.tmp 107)⟩])
    (.seq (.ops [⟨(some 108), none, .move (.tmp 3)⟩, ⟨(some 109), none, .move (.tmp 12)⟩, ⟨(some 110), none, .bin .add none (.tmp 109) (.const (.int .i64 1))⟩, ⟨(some 111), none, .indexS 1 (.tmp 108) (.tmp 110)⟩, ⟨(some 112), none, .load 1 false (.tmp 111)⟩, ⟨(some 14), none, .move (.tmp 112)⟩])
    (.seq (.seq (.ops [⟨(some 113), none, .move (.tmp 13)⟩, ⟨(some 114), none, .fieldAddr 0 (.tmp 11)⟩, ⟨(some 115), none, .indexA 256 1 (.tmp 114) (.tmp 113)⟩, ⟨(some 116), none, .load 1 false (.tmp 115)⟩, ⟨(some 117), none, .bin .eql (some 0) (.tmp 116) (.const (.slice none 0 0))⟩])
    (.cond (.tmp 117) (.ops [⟨(some 118), none, .fieldAddr 256 (.tmp 11)⟩, ⟨(some 119), none, .load 1 false (.tmp 118)⟩, ⟨(some 120), none, .move (.tmp 13)⟩, ⟨(some 121), none, .lit 1 false (.v (.int .u8 0)) 1 [(0, (.tmp 120))]⟩, ⟨(some 122), none, .toStr (.tmp 121)⟩, ⟨(some 123), none, .lit 1 false (.v (.string ⟨#[]⟩)) 1 [(0, (.tmp 122))]⟩, ⟨(some 124), none, .append 1 true (.tmp 119) (.tmp 123)⟩, ⟨(some 125), none, .fieldAddr 256 (.tmp 11)⟩, ⟨none, none, .store 1 (.tmp 125) (.tmp 124)⟩])
    .skip))
    (.ops [⟨(some 126), none, .move (.tmp 13)⟩, ⟨(some 127), none, .move (.tmp 14)⟩, ⟨(some 128), none, .toBytes (.tmp 127)⟩, ⟨(some 129), none, .fieldAddr 0 (.tmp 11)⟩, ⟨(some 130), none, .indexA 256 1 (.tmp 129) (.tmp 126)⟩, ⟨none, none, .store 1 (.tmp 130) (.tmp 128)⟩])))))
  (.ops [⟨(some 101), none, .move (.tmp 12)⟩, ⟨(some 102), none, .bin .sub none (.tmp 101) (.const (.int .i64 2))⟩, ⟨(some 12), none, .move (.tmp 102)⟩])))
def ir134 : IF := ⟨(.seq (.ops [⟨(some 2), none, .move (.const .nilIface)⟩])
  (.seq (.ops [⟨(some 15), none, .move (.tmp 0)⟩, ⟨(some 16), none, .nil (.tmp 15)⟩, ⟨(some 17), none, .fieldAddr 4 (.tmp 16)⟩, ⟨(some 18), none, .load 1 false (.tmp 17)⟩, ⟨(some 3), none, .move (.tmp 18)⟩])
  (.seq (.seq (.ops [⟨(some 19), none, .move (.tmp 3)⟩, ⟨(some 20), none, .len (.tmp 19)⟩, ⟨(some 21), none, .bin .eql none (.tmp 20) (.const (.int .i64 2))⟩, ⟨(some 22), none, .move (.tmp 21)⟩, ⟨(some 23), (some (22, true)), .move (.tmp 3)⟩, ⟨(some 24), (some (22, true)), .indexS 1 (.tmp 23) (.const (.int .i64 0))⟩, ⟨(some 25), (some (22, true)), .load 1 false (.tmp 24)⟩, ⟨(some 26), (some (22, true)), .lenStr (.tmp 25)⟩, ⟨(some 27), (some (22, true)), .bin .gtr none (.tmp 26) (.const (.int .i64 1))⟩, ⟨(some 28), none, .pick (.tmp 22) (.tmp 27) (.const (.bool false))⟩])
  (.cond (.tmp 28) (.seq (.ops [⟨(some 29), none, .move (.tmp 3)⟩, ⟨(some 30), none, .indexS 1 (.tmp 29) (.const (.int .i64 0))⟩, ⟨(some 31), none, .load 1 false (.tmp 30)⟩, ⟨(some 32), none, .move (.tmp 3)⟩, ⟨(some 33), none, .indexS 1 (.tmp 32) (.const (.int .i64 1))⟩, ⟨(some 34), none, .load 1 false (.tmp 33)⟩, ⟨(some 35), none, .call true 172 [(.tmp 31), (.tmp 34)]⟩, ⟨(some 36), none, .iface 236 (.tmp 35)⟩, ⟨(some 2), none, .move (.tmp 36)⟩])
    .ret)
  .skip))
  (.seq (.ops [⟨(some 4), none, .move (.const (.bool true))⟩])
  (.seq (.seq (.ops [⟨(some 5), none, .move (.const (.int .i64 0))⟩])
  (.block 0 (.loop false [3, 4, 5] lp134_0)))
  (.seq (.seq (.ops [⟨(some 59), none, .move (.tmp 4)⟩])
  (.cond (.tmp 59) (.seq (.ops [⟨(some 60), none, .build [(.v (.int .u8 0)), (.v (.int .u8 0)), (.v (.int .u8 0)), (.v (.int .u8 0)), (.v (.int .u8 0)), (.v (.int .u8 0)), (.v (.int .u8 0)), (.v (.int .u8 0)), (.v (.int .u8 0)), (.v (.int .u8 0)), (.v (.int .u8 0)), (.v (.int .u8 0)), (.v (.int .u8 0)), (.v (.int .u8 0)), (.v (.int .u8 0)), (.v (.int .u8 0)), (.v (.int .u8 0)), (.v (.int .u8 0)), (.v (.int .u8 0)), (.v (.int .u8 0)), (.v (.int .u8 0)), (.v (.int .u8 0)), (.v (.int .u8 0)), (.v (.int .u8 0)), (.v (.int .u8 0)), (.v (.int .u8 0)), (.v (.int .u8 0)), (.v (.int .u8 0)), (.v (.int .u8 0)), (.v (.int .u8 0)), (.v (.int .u8 0)), (.v (.int .u8 0)), (.v (.int .u8 0)), (.v (.int .u8 0)), (.v (.int .u8 0)), (.v (.int .u8 0)), (.v (.int .u8 0)), (.v (.int .u8 0)), (.v (.int .u8 0)), (.v (.int .u8 0)), (.v (.int .u8 0)), (.v (.int .u8 0)), (.v (.int .u8 0)), (.v (.int .u8 0)), (.v (.int .u8 0)), (.v (.int .u8 0)), (.v (.int .u8 0)), (.v (.int .u8 0)), (.v (.int .u8 0)), (.v (.int .u8 0)), (.v (.int .u8 0)), (.v (.int .u8 0)), (.v (.int .u8 0)), (.v (.int .u8 0)), (.v (.int .u8 0)), (.v (.int .u8 0)), (.v (.int .u8 0)), (.v (.int .u8 0)), (.v (.int .u8 0)), (.v (.int .u8 0)), (.v (.int .u8 0)), (.v (.int .u8 0)), (.v (.int .u8 0)), (.v (.int .u8 0)), (.v (.int .u8 0)), (.v (.int .u8 0)), (.v (.int .u8 0)), (.v (.int .u8 0)), (.v (.int .u8 0)), (.v (.int .u8 0)), (.v (.int .u8 0)), (.v (.int .u8 0)), (.v (.int .u8 0)), (.v (.int .u8 0)), (.v (.int .u8 0)), (.v (.int .u8 0)), (.v (.int .u8 0)), (.v (.int .u8 0)), (.v (.int .u8 0)), (.v (.int .u8 0)), (.v (.int .u8 0)), (.v (.int .u8 0)), (.v (.int .u8 0)), (.v (.int .u8 0)), (.v (.int .u8 0)), (.v (.int .u8 0)), (.v (.int .u8 0)), (.v (.int .u8 0)), (.v (.int .u8 0)), (.v (.int .u8 0)), (.v (.int .u8 0)), (.v (.int .u8 0)), (.v (.int .u8 0)), (.v (.int .u8 0)), (.v (.int .u8 0)), (.v (.int .u8 0)), (.v (.int .u8 0)), (.v (.int .u8 0)), (.v (.int .u8 0)), (.v (.int .u8 0)), (.v (.int .u8 0)), (.v (.int .u8 0)), (.v (.int .u8 0)), (.v (.int .u8 0)), (.v (.int .u8 0)), (.v (.int .u8 0)), (.v (.int .u8 0)), (.v (.int .u8 0)), (.v (.int .u8 0)), (.v (.int .u8 0)), (.v (.int .u8 0)), (.v (.int .u8 0)), (.v (.int .u8 0)), (.v (.int .u8 0)), (.v (.int .u8 0)), (.v (.int .u8 0)), (.v (.int .u8 0)), (.v (.int .u8 0)), (.v (.int .u8 0)), (.v (.int .u8 0)), (.v (.int .u8 0)), (.v (.int .u8 0)), (.v (.int .u8 0)), (.v (.int .u8 0)), (.v (.int .u8 0)), (.v (.int .u8 0)), (.v (.int .u8 0)), (.v (.int .u8 0)), (.v (.int .u8 0)), (.v (.int .u8 0)), (.v (.int .u8 0)), (.v (.int .u8 0)), (.v (.int .u8 0)), (.v (.int .u8 0)), (.v (.int .u8 0)), (.v (.int .u8 0)), (.v (.int .u8 0)), (.v (.int .u8 0)), (.v (.int .u8 0)), (.v (.int .u8 0)), (.v (.int .u8 0)), (.v (.int .u8 0)), (.v (.int .u8 0)), (.v (.int .u8 0)), (.v (.int .u8 0)), (.v (.int .u8 0)), (.v (.int .u8 0)), (.v (.int .u8 0)), (.v (.int .u8 0)), (.v (.int .u8 0)), (.v (.int .u8 0)), (.v (.int .u8 0)), (.v (.int .u8 0)), (.v (.int .u8 0)), (.v (.int .u8 0)), (.v (.int .u8 0)), (.v (.int .u8 0)), (.v (.int .u8 0)), (.v (.int .u8 0)), (.v (.int .u8 0)), (.v (.int .u8 0)), (.v (.int .u8 0)), (.v (.int .u8 0)), (.v (.int .u8 0)), (.v (.int .u8 0)), (.v (.int .u8 0)), (.v (.int .u8 0)), (.v (.int .u8 0)), (.v (.int .u8 0)), (.v (.int .u8 0)), (.v (.int .u8 0)), (.v (.int .u8 0)), (.v (.int .u8 0)), (.v (.int .u8 0)), (.v (.int .u8 0)), (.v (.int .u8 0)), (.v (.int .u8 0)), (.v (.int .u8 0)), (.v (.int .u8 0)), (.v (.int .u8 0)), (.v (.int .u8 0)), (.v (.int .u8 0)), (.v (.int .u8 0)), (.v (.int .u8 0)), (.v (.int .u8 0)), (.v (.int .u8 0)), (.v (.int .u8 0)), (.v (.int .u8 0)), (.v (.int .u8 0)), (.v (.int .u8 0)), (.v (.int .u8 0)), (.v (.int .u8 0)), (.v (.int .u8 0)), (.v (.int .u8 0)), (.v (.int .u8 0)), (.v (.int .u8 0)), (.v (.int .u8 0)), (.v (.int .u8 0)), (.v (.int .u8 0)), (.v (.int .u8 0)), (.v (.int .u8 0)), (.v (.int .u8 0)), (.v (.int .u8 0)), (.v (.int .u8 0)), (.v (.int .u8 0)), (.v (.int .u8 0)), (.v (.int .u8 0)), (.v (.int .u8 0)), (.v (.int .u8 0)), (.v (.int .u8 0)), (.v (.int .u8 0)), (.v (.int .u8 0)), (.v (.int .u8 0)), (.v (.int .u8 0)), (.v (.int .u8 0)), (.v (.int .u8 0)), (.v (.int .u8 0)), (.v (.int .u8 0)), (.v (.int .u8 0)), (.v (.int .u8 0)), (.v (.int .u8 0)), (.v (.int .u8 0)), (.v (.int .u8 0)), (.v (.int .u8 0)), (.v (.int .u8 0)), (.v (.int .u8 0)), (.v (.int .u8 0)), (.v (.int .u8 0)), (.v (.int .u8 0)), (.v (.int .u8 0)), (.v (.int .u8 0)), (.v (.int .u8 0)), (.v (.int .u8 0)), (.v (.int .u8 0)), (.v (.int .u8 0)), (.v (.int .u8 0)), (.v (.int .u8 0)), (.v (.int .u8 0)), (.v (.int .u8 0)), (.v (.int .u8 0)), (.v (.int .u8 0)), (.v (.int .u8 0)), (.v (.int .u8 0)), (.v (.int .u8 0)), (.v (.int .u8 0)), (.v (.int .u8 0)), (.v (.int .u8 0)), (.v (.int .u8 0)), (.v (.int .u8 0)), (.v (.int .u8 0)), (.v (.int .u8 0)), (.v (.int .u8 0)), (.v (.int .u8 0)), (.v (.int .u8 0)), (.v (.int .u8 0)), (.v (.int .u8 0))] []⟩, ⟨(some 6), none, .alloc [(.v (.int .u8 0)), (.v (.int .u8 0)), (.v (.int .u8 0)), (.v (.int .u8 0)), (.v (.int .u8 0)), (.v (.int .u8 0)), (.v (.int .u8 0)), (.v (.int .u8 0)), (.v (.int .u8 0)), (.v (.int .u8 0)), (.v (.int .u8 0)), (.v (.int .u8 0)), (.v (.int .u8 0)), (.v (.int .u8 0)), (.v (.int .u8 0)), (.v (.int .u8 0)), (.v (.int .u8 0)), (.v (.int .u8 0)), (.v (.int .u8 0)), (.v (.int .u8 0)), (.v (.int .u8 0)), (.v (.int .u8 0)), (.v (.int .u8 0)), (.v (.int .u8 0)), (.v (.int .u8 0)), (.v (.int .u8 0)), (.v (.int .u8 0)), (.v (.int .u8 0)), (.v (.int .u8 0)), (.v (.int .u8 0)), (.v (.int .u8 0)), (.v (.int .u8 0)), (.v (.int .u8 0)), (.v (.int .u8 0)), (.v (.int .u8 0)), (.v (.int .u8 0)), (.v (.int .u8 0)), (.v (.int .u8 0)), (.v (.int .u8 0)), (.v (.int .u8 0)), (.v (.int .u8 0)), (.v (.int .u8 0)), (.v (.int .u8 0)), (.v (.int .u8 0)), (.v (.int .u8 0)), (.v (.int .u8 0)), (.v (.int .u8 0)), (.v (.int .u8 0)), (.v (.int .u8 0)), (.v (.int .u8 0)), (.v (.int .u8 0)), (.v (.int .u8 0)), (.v (.int .u8 0)), (.v (.int .u8 0)), (.v (.int .u8 0)), (.v (.int .u8 0)), (.v (.int .u8 0)), (.v (.int .u8 0)), (.v (.int .u8 0)), (.v (.int .u8 0)), (.v (.int .u8 0)), (.v (.int .u8 0)), (.v (.int .u8 0)), (.v (.int .u8 0)), (.v (.int .u8 0)), (.v (.int .u8 0)), (.v (.int .u8 0)), (.v (.int .u8 0)), (.v (.int .u8 0)), (.v (.int .u8 0)), (.v (.int .u8 0)), (.v (.int .u8 0)), (.v (.int .u8 0)), (.v (.int .u8 0)), (.v (.int .u8 0)), (.v (.int .u8 0)), (.v (.int .u8 0)), (.v (.int .u8 0)), (.v (.int .u8 0)), (.v (.int .u8 0)), (.v (.int .u8 0)), (.v (.int .u8 0)), (.v (.int .u8 0)), (.v (.int .u8 0)), (.v (.int .u8 0)), (.v (.int .u8 0)), (.v (.int .u8 0)), (.v (.int .u8 0)), (.v (.int .u8 0)), (.v (.int .u8 0)), (.v (.int .u8 0)), (.v (.int .u8 0)), (.v (.int .u8 0)), (.v (.int .u8 0)), (.v (.int .u8 0)), (.v (.int .u8 0)), (.v (.int .u8 0)), (.v (.int .u8 0)), (.v (.int .u8 0)), (.v (.int .u8 0)), (.v (.int .u8 0)), (.v (.int .u8 0)), (.v (.int .u8 0)), (.v (.int .u8 0)), (.v (.int .u8 0)), (.v (.int .u8 0)), (.v (.int .u8 0)), (.v (.int .u8 0)), (.v (.int .u8 0)), (.v (.int .u8 0)), (.v (.int .u8 0)), (.v (.int .u8 0)), (.v (.int .u8 0)), (.v (.int .u8 0)), (.v (.int .u8 0)), (.v (.int .u8 0)), (.v (.int .u8 0)), (.v (.int .u8 0)), (.v (.int .u8 0)), (.v (.int .u8 0)), (.v (.int .u8 0)), (.v (.int .u8 0)), (.v (.int .u8 0)), (.v (.int .u8 0)), (.v (.int .u8 0)), (.v (.int .u8 0)), (.v (.int .u8 0)), (.v (.int .u8 0)), (.v (.int .u8 0)), (.v (.int .u8 0)), (.v (.int .u8 0)), (.v (.int .u8 0)), (.v (.int .u8 0)), (.v (.int .u8 0)), (.v (.int .u8 0)), (.v (.int .u8 0)), (.v (.int .u8 0)), (.v (.int .u8 0)), (.v (.int .u8 0)), (.v (.int .u8 0)), (.v (.int .u8 0)), (.v (.int .u8 0)), (.v (.int .u8 0)), (.v (.int .u8 0)), (.v (.int .u8 0)), (.v (.int .u8 0)), (.v (.int .u8 0)), (.v (.int .u8 0)), (.v (.int .u8 0)), (.v (.int .u8 0)), (.v (.int .u8 0)), (.v (.int .u8 0)), (.v (.int .u8 0)), (.v (.int .u8 0)), (.v (.int .u8 0)), (.v (.int .u8 0)), (.v (.int .u8 0)), (.v (.int .u8 0)), (.v (.int .u8 0)), (.v (.int .u8 0)), (.v (.int .u8 0)), (.v (.int .u8 0)), (.v (.int .u8 0)), (.v (.int .u8 0)), (.v (.int .u8 0)), (.v (.int .u8 0)), (.v (.int .u8 0)), (.v (.int .u8 0)), (.v (.int .u8 0)), (.v (.int .u8 0)), (.v (.int .u8 0)), (.v (.int .u8 0)), (.v (.int .u8 0)), (.v (.int .u8 0)), (.v (.int .u8 0)), (.v (.int .u8 0)), (.v (.int .u8 0)), (.v (.int .u8 0)), (.v (.int .u8 0)), (.v (.int .u8 0)), (.v (.int .u8 0)), (.v (.int .u8 0)), (.v (.int .u8 0)), (.v (.int .u8 0)), (.v (.int .u8 0)), (.v (.int .u8 0)), (.v (.int .u8 0)), (.v (.int .u8 0)), (.v (.int .u8 0)), (.v (.int .u8 0)), (.v (.int .u8 0)), (.v (.int .u8 0)), (.v (.int .u8 0)), (.v (.int .u8 0)), (.v (.int .u8 0)), (.v (.int .u8 0)), (.v (.int .u8 0)), (.v (.int .u8 0)), (.v (.int .u8 0)), (.v (.int .u8 0)), (.v (.int .u8 0)), (.v (.int .u8 0)), (.v (.int .u8 0)), (.v (.int .u8 0)), (.v (.int .u8 0)), (.v (.int .u8 0)), (.v (.int .u8 0)), (.v (.int .u8 0)), (.v (.int .u8 0)), (.v (.int .u8 0)), (.v (.int .u8 0)), (.v (.int .u8 0)), (.v (.int .u8 0)), (.v (.int .u8 0)), (.v (.int .u8 0)), (.v (.int .u8 0)), (.v (.int .u8 0)), (.v (.int .u8 0)), (.v (.int .u8 0)), (.v (.int .u8 0)), (.v (.int .u8 0)), (.v (.int .u8 0)), (.v (.int .u8 0)), (.v (.int .u8 0)), (.v (.int .u8 0)), (.v (.int .u8 0)), (.v (.int .u8 0)), (.v (.int .u8 0)), (.v (.int .u8 0)), (.v (.int .u8 0)), (.v (.int .u8 0)), (.v (.int .u8 0)), (.v (.int .u8 0)), (.v (.int .u8 0)), (.v (.int .u8 0)), (.v (.int .u8 0)), (.v (.int .u8 0)), (.v (.int .u8 0)), (.v (.int .u8 0)), (.v (.int .u8 0)), (.v (.int .u8 0)), (.v (.int .u8 0)), (.v (.int .u8 0)), (.v (.int .u8 0)), (.v (.int .u8 0)), (.v (.int .u8 0)), (.v (.int .u8 0)), (.v (.int .u8 0)), (.v (.int .u8 0)), (.v (.int .u8 0)), (.v (.int .u8 0)), (.v (.int .u8 0)), (.v (.int .u8 0)), (.v (.int .u8 0)), (.v (.int .u8 0)), (.v (.int .u8 0))]⟩, ⟨none, none, .store 256 (.tmp 6) (.tmp 60)⟩])
    (.seq (.seq (.ops [⟨(some 61), none, .move (.const (.int .i64 0))⟩])
    (.block 2 (.loop false [3, 6, 61] lp134_1)))
    (.seq (.seq (.ops [⟨(some 69), none, .move (.tmp 3)⟩, ⟨(some 70), none, .len (.tmp 69)⟩, ⟨(some 71), none, .bin .sub none (.tmp 70) (.const (.int .i64 2))⟩, ⟨(some 8), none, .move (.tmp 71)⟩])
    (.block 4 (.loop false [3, 6, 8] lp134_2)))
    (.seq (.ops [⟨(some 90), none, .iface 242 (.tmp 6)⟩, ⟨(some 2), none, .move (.tmp 90)⟩])
    .ret))))
  .skip))
  (.seq (.ops [⟨(some 91), none, .move (.tmp 3)⟩, ⟨(some 92), none, .len (.tmp 91)⟩, ⟨(some 93), none, .bin .quo none (.tmp 92) (.const (.int .i64 2))⟩, ⟨(some 94), none, .make 1 false [(.v (.string ⟨#[]⟩))] (.const (.int .i64 0)) (.tmp 93)⟩, ⟨(some 95), none, .build [(.v (.slice none 0 0)), (.v (.slice none 0 0)), (.v (.slice none 0 0)), (.v (.slice none 0 0)), (.v (.slice none 0 0)), (.v (.slice none 0 0)), (.v (.slice none 0 0)), (.v (.slice none 0 0)), (.v (.slice none 0 0)), (.v (.slice none 0 0)), (.v (.slice none 0 0)), (.v (.slice none 0 0)), (.v (.slice none 0 0)), (.v (.slice none 0 0)), (.v (.slice none 0 0)), (.v (.slice none 0 0)), (.v (.slice none 0 0)), (.v (.slice none 0 0)), (.v (.slice none 0 0)), (.v (.slice none 0 0)), (.v (.slice none 0 0)), (.v (.slice none 0 0)), (.v (.slice none 0 0)), (.v (.slice none 0 0)), (.v (.slice none 0 0)), (.v (.slice none 0 0)), (.v (.slice none 0 0)), (.v (.slice none 0 0)), (.v (.slice none 0 0)), (.v (.slice none 0 0)), (.v (.slice none 0 0)), (.v (.slice none 0 0)), (.v (.slice none 0 0)), (.v (.slice none 0 0)), (.v (.slice none 0 0)), (.v (.slice none 0 0)), (.v (.slice none 0 0)), (.v (.slice none 0 0)), (.v (.slice none 0 0)), (.v (.slice none 0 0)), (.v (.slice none 0 0)), (.v (.slice none 0 0)), (.v (.slice none 0 0)), (.v (.slice none 0 0)), (.v (.slice none 0 0)), (.v (.slice none 0 0)), (.v (.slice none 0 0)), (.v (.slice none 0 0)), (.v (.slice none 0 0)), (.v (.slice none 0 0)), (.v (.slice none 0 0)), (.v (.slice none 0 0)), (.v (.slice none 0 0)), (.v (.slice none 0 0)), (.v (.slice none 0 0)), (.v (.slice none 0 0)), (.v (.slice none 0 0)), (.v (.slice none 0 0)), (.v (.slice none 0 0)), (.v (.slice none 0 0)), (.v (.slice none 0 0)), (.v (.slice none 0 0)), (.v (.slice none 0 0)), (.v (.slice none 0 0)), (.v (.slice none 0 0)), (.v (.slice none 0 0)), (.v (.slice none 0 0)), (.v (.slice none 0 0)), (.v (.slice none 0 0)), (.v (.slice none 0 0)), (.v (.slice none 0 0)), (.v (.slice none 0 0)), (.v (.slice none 0 0)), (.v (.slice none 0 0)), (.v (.slice none 0 0)), (.v (.slice none 0 0)), (.v (.slice none 0 0)), (.v (.slice none 0 0)), (.v (.slice none 0 0)), (.v (.slice none 0 0)), (.v (.slice none 0 0)), (.v (.slice none 0 0)), (.v (.slice none 0 0)), (.v (.slice none 0 0)), (.v (.slice none 0 0)), (.v (.slice none 0 0)), (.v (.slice none 0 0)), (.v (.slice none 0 0)), (.v (.slice none 0 0)), (.v (.slice none 0 0)), (.v (.slice none 0 0)), (.v (.slice none 0 0)), (.v (.slice none 0 0)), (.v (.slice none 0 0)), (.v (.slice none 0 0)), (.v (.slice none 0 0)), (.v (.slice none 0 0)), (.v (.slice none 0 0)), (.v (.slice none 0 0)), (.v (.slice none 0 0)), (.v (.slice none 0 0)), (.v (.slice none 0 0)), (.v (.slice none 0 0)), (.v (.slice none 0 0)), (.v (.slice none 0 0)), (.v (.slice none 0 0)), (.v (.slice none 0 0)), (.v (.slice none 0 0)), (.v (.slice none 0 0)), (.v (.slice none 0 0)), (.v (.slice none 0 0)), (.v (.slice none 0 0)), (.v (.slice none 0 0)), (.v (.slice none 0 0)), (.v (.slice none 0 0)), (.v (.slice none 0 0)), (.v (.slice none 0 0)), (.v (.slice none 0 0)), (.v (.slice none 0 0)), (.v (.slice none 0 0)), (.v (.slice none 0 0)), (.v (.slice none 0 0)), (.v (.slice none 0 0)), (.v (.slice none 0 0)), (.v (.slice none 0 0)), (.v (.slice none 0 0)), (.v (.slice none 0 0)), (.v (.slice none 0 0)), (.v (.slice none 0 0)), (.v (.slice none 0 0)), (.v (.slice none 0 0)), (.v (.slice none 0 0)), (.v (.slice none 0 0)), (.v (.slice none 0 0)), (.v (.slice none 0 0)), (.v (.slice none 0 0)), (.v (.slice none 0 0)), (.v (.slice none 0 0)), (.v (.slice none 0 0)), (.v (.slice none 0 0)), (.v (.slice none 0 0)), (.v (.slice none 0 0)), (.v (.slice none 0 0)), (.v (.slice none 0 0)), (.v (.slice none 0 0)), (.v (.slice none 0 0)), (.v (.slice none 0 0)), (.v (.slice none 0 0)), (.v (.slice none 0 0)), (.v (.slice none 0 0)), (.v (.slice none 0 0)), (.v (.slice none 0 0)), (.v (.slice none 0 0)), (.v (.slice none 0 0)), (.v (.slice none 0 0)), (.v (.slice none 0 0)), (.v (.slice none 0 0)), (.v (.slice none 0 0)), (.v (.slice none 0 0)), (.v (.slice none 0 0)), (.v (.slice none 0 0)), (.v (.slice none 0 0)), (.v (.slice none 0 0)), (.v (.slice none 0 0)), (.v (.slice none 0 0)), (.v (.slice none 0 0)), (.v (.slice none 0 0)), (.v (.slice none 0 0)), (.v (.slice none 0 0)), (.v (.slice none 0 0)), (.v (.slice none 0 0)), (.v (.slice none 0 0)), (.v (.slice none 0 0)), (.v (.slice none 0 0)), (.v (.slice none 0 0)), (.v (.slice none 0 0)), (.v (.slice none 0 0)), (.v (.slice none 0 0)), (.v (.slice none 0 0)), (.v (.slice none 0 0)), (.v (.slice none 0 0)), (.v (.slice none 0 0)), (.v (.slice none 0 0)), (.v (.slice none 0 0)), (.v (.slice none 0 0)), (.v (.slice none 0 0)), (.v (.slice none 0 0)), (.v (.slice none 0 0)), (.v (.slice none 0 0)), (.v (.slice none 0 0)), (.v (.slice none 0 0)), (.v (.slice none 0 0)), (.v (.slice none 0 0)), (.v (.slice none 0 0)), (.v (.slice none 0 0)), (.v (.slice none 0 0)), (.v (.slice none 0 0)), (.v (.slice none 0 0)), (.v (.slice none 0 0)), (.v (.slice none 0 0)), (.v (.slice none 0 0)), (.v (.slice none 0 0)), (.v (.slice none 0 0)), (.v (.slice none 0 0)), (.v (.slice none 0 0)), (.v (.slice none 0 0)), (.v (.slice none 0 0)), (.v (.slice none 0 0)), (.v (.slice none 0 0)), (.v (.slice none 0 0)), (.v (.slice none 0 0)), (.v (.slice none 0 0)), (.v (.slice none 0 0)), (.v (.slice none 0 0)), (.v (.slice none 0 0)), (.v (.slice none 0 0)), (.v (.slice none 0 0)), (.v (.slice none 0 0)), (.v (.slice none 0 0)), (.v (.slice none 0 0)), (.v (.slice none 0 0)), (.v (.slice none 0 0)), (.v (.slice none 0 0)), (.v (.slice none 0 0)), (.v (.slice none 0 0)), (.v (.slice none 0 0)), (.v (.slice none 0 0)), (.v (.slice none 0 0)), (.v (.slice none 0 0)), (.v (.slice none 0 0)), (.v (.slice none 0 0)), (.v (.slice none 0 0)), (.v (.slice none 0 0)), (.v (.slice none 0 0)), (.v (.slice none 0 0)), (.v (.slice none 0 0)), (.v (.slice none 0 0)), (.v (.slice none 0 0)), (.v (.slice none 0 0)), (.v (.slice none 0 0)), (.v (.slice none 0 0)), (.v (.slice none 0 0)), (.v (.slice none 0 0)), (.v (.slice none 0 0)), (.v (.slice none 0 0)), (.v (.slice none 0 0)), (.v (.slice none 0 0)), (.v (.slice none 0 0)), (.v (.slice none 0 0)), (.v (.slice none 0 0)), (.v (.slice none 0 0)), (.v (.slice none 0 0)), (.v (.slice none 0 0)), (.v (.slice none 0 0)), (.v (.slice none 0 0)), (.v (.slice none 0 0)), (.v (.slice none 0 0))] [(256, 1, (.tmp 94))]⟩, ⟨(some 11), none, .alloc [(.v (.slice none 0 0)), (.v (.slice none 0 0)), (.v (.slice none 0 0)), (.v (.slice none 0 0)), (.v (.slice none 0 0)), (.v (.slice none 0 0)), (.v (.slice none 0 0)), (.v (.slice none 0 0)), (.v (.slice none 0 0)), (.v (.slice none 0 0)), (.v (.slice none 0 0)), (.v (.slice none 0 0)), (.v (.slice none 0 0)), (.v (.slice none 0 0)), (.v (.slice none 0 0)), (.v (.slice none 0 0)), (.v (.slice none 0 0)), (.v (.slice none 0 0)), (.v (.slice none 0 0)), (.v (.slice none 0 0)), (.v (.slice none 0 0)), (.v (.slice none 0 0)), (.v (.slice none 0 0)), (.v (.slice none 0 0)), (.v (.slice none 0 0)), (.v (.slice none 0 0)), (.v (.slice none 0 0)), (.v (.slice none 0 0)), (.v (.slice none 0 0)), (.v (.slice none 0 0)), (.v (.slice none 0 0)), (.v (.slice none 0 0)), (.v (.slice none 0 0)), (.v (.slice none 0 0)), (.v (.slice none 0 0)), (.v (.slice none 0 0)), (.v (.slice none 0 0)), (.v (.slice none 0 0)), (.v (.slice none 0 0)), (.v (.slice none 0 0)), (.v (.slice none 0 0)), (.v (.slice none 0 0)), (.v (.slice none 0 0)), (.v (.slice none 0 0)), (.v (.slice none 0 0)), (.v (.slice none 0 0)), (.v (.slice none 0 0)), (.v (.slice none 0 0)), (.v (.slice none 0 0)), (.v (.slice none 0 0)), (.v (.slice none 0 0)), (.v (.slice none 0 0)), (.v (.slice none 0 0)), (.v (.slice none 0 0)), (.v (.slice none 0 0)), (.v (.slice none 0 0)), (.v (.slice none 0 0)), (.v (.slice none 0 0)), (.v (.slice none 0 0)), (.v (.slice none 0 0)), (.v (.slice none 0 0)), (.v (.slice none 0 0)), (.v (.slice none 0 0)), (.v (.slice none 0 0)), (.v (.slice none 0 0)), (.v (.slice none 0 0)), (.v (.slice none 0 0)), (.v (.slice none 0 0)), (.v (.slice none 0 0)), (.v (.slice none 0 0)), (.v (.slice none 0 0)), (.v (.slice none 0 0)), (.v (.slice none 0 0)), (.v (.slice none 0 0)), (.v (.slice none 0 0)), (.v (.slice none 0 0)), (.v (.slice none 0 0)), (.v (.slice none 0 0)), (.v (.slice none 0 0)), (.v (.slice none 0 0)), (.v (.slice none 0 0)), (.v (.slice none 0 0)), (.v (.slice none 0 0)), (.v (.slice none 0 0)), (.v (.slice none 0 0)), (.v (.slice none 0 0)), (.v (.slice none 0 0)), (.v (.slice none 0 0)), (.v (.slice none 0 0)), (.v (.slice none 0 0)), (.v (.slice none 0 0)), (.v (.slice none 0 0)), (.v (.slice none 0 0)), (.v (.slice none 0 0)), (.v (.slice none 0 0)), (.v (.slice none 0 0)), (.v (.slice none 0 0)), (.v (.slice none 0 0)), (.v (.slice none 0 0)), (.v (.slice none 0 0)), (.v (.slice none 0 0)), (.v (.slice none 0 0)), (.v (.slice none 0 0)), (.v (.slice none 0 0)), (.v (.slice none 0 0)), (.v (.slice none 0 0)), (.v (.slice none 0 0)), (.v (.slice none 0 0)), (.v (.slice none 0 0)), (.v (.slice none 0 0)), (.v (.slice none 0 0)), (.v (.slice none 0 0)), (.v (.slice none 0 0)), (.v (.slice none 0 0)), (.v (.slice none 0 0)), (.v (.slice none 0 0)), (.v (.slice none 0 0)), (.v (.slice none 0 0)), (.v (.slice none 0 0)), (.v (.slice none 0 0)), (.v (.slice none 0 0)), (.v (.slice none 0 0)), (.v (.slice none 0 0)), (.v (.slice none 0 0)), (.v (.slice none 0 0)), (.v (.slice none 0 0)), (.v (.slice none 0 0)), (.v (.slice none 0 0)), (.v (.slice none 0 0)), (.v (.slice none 0 0)), (.v (.slice none 0 0)), (.v (.slice none 0 0)), (.v (.slice none 0 0)), (.v (.slice none 0 0)), (.v (.slice none 0 0)), (.v (.slice none 0 0)), (.v (.slice none 0 0)), (.v (.slice none 0 0)), (.v (.slice none 0 0)), (.v (.slice none 0 0)), (.v (.slice none 0 0)), (.v (.slice none 0 0)), (.v (.slice none 0 0)), (.v (.slice none 0 0)), (.v (.slice none 0 0)), (.v (.slice none 0 0)), (.v (.slice none 0 0)), (.v (.slice none 0 0)), (.v (.slice none 0 0)), (.v (.slice none 0 0)), (.v (.slice none 0 0)), (.v (.slice none 0 0)), (.v (.slice none 0 0)), (.v (.slice none 0 0)), (.v (.slice none 0 0)), (.v (.slice none 0 0)), (.v (.slice none 0 0)), (.v (.slice none 0 0)), (.v (.slice none 0 0)), (.v (.slice none 0 0)), (.v (.slice none 0 0)), (.v (.slice none 0 0)), (.v (.slice none 0 0)), (.v (.slice none 0 0)), (.v (.slice none 0 0)), (.v (.slice none 0 0)), (.v (.slice none 0 0)), (.v (.slice none 0 0)), (.v (.slice none 0 0)), (.v (.slice none 0 0)), (.v (.slice none 0 0)), (.v (.slice none 0 0)), (.v (.slice none 0 0)), (.v (.slice none 0 0)), (.v (.slice none 0 0)), (.v (.slice none 0 0)), (.v (.slice none 0 0)), (.v (.slice none 0 0)), (.v (.slice none 0 0)), (.v (.slice none 0 0)), (.v (.slice none 0 0)), (.v (.slice none 0 0)), (.v (.slice none 0 0)), (.v (.slice none 0 0)), (.v (.slice none 0 0)), (.v (.slice none 0 0)), (.v (.slice none 0 0)), (.v (.slice none 0 0)), (.v (.slice none 0 0)), (.v (.slice none 0 0)), (.v (.slice none 0 0)), (.v (.slice none 0 0)), (.v (.slice none 0 0)), (.v (.slice none 0 0)), (.v (.slice none 0 0)), (.v (.slice none 0 0)), (.v (.slice none 0 0)), (.v (.slice none 0 0)), (.v (.slice none 0 0)), (.v (.slice none 0 0)), (.v (.slice none 0 0)), (.v (.slice none 0 0)), (.v (.slice none 0 0)), (.v (.slice none 0 0)), (.v (.slice none 0 0)), (.v (.slice none 0 0)), (.v (.slice none 0 0)), (.v (.slice none 0 0)), (.v (.slice none 0 0)), (.v (.slice none 0 0)), (.v (.slice none 0 0)), (.v (.slice none 0 0)), (.v (.slice none 0 0)), (.v (.slice none 0 0)), (.v (.slice none 0 0)), (.v (.slice none 0 0)), (.v (.slice none 0 0)), (.v (.slice none 0 0)), (.v (.slice none 0 0)), (.v (.slice none 0 0)), (.v (.slice none 0 0)), (.v (.slice none 0 0)), (.v (.slice none 0 0)), (.v (.slice none 0 0)), (.v (.slice none 0 0)), (.v (.slice none 0 0)), (.v (.slice none 0 0)), (.v (.slice none 0 0)), (.v (.slice none 0 0)), (.v (.slice none 0 0)), (.v (.slice none 0 0)), (.v (.slice none 0 0)), (.v (.slice none 0 0)), (.v (.slice none 0 0)), (.v (.slice none 0 0)), (.v (.slice none 0 0)), (.v (.slice none 0 0)), (.v (.slice none 0 0)), (.v (.slice none 0 0)), (.v (.slice none 0 0)), (.v (.slice none 0 0)), (.v (.slice none 0 0)), (.v (.slice none 0 0)), (.v (.slice none 0 0)), (.v (.slice none 0 0)), (.v (.slice none 0 0)), (.v (.slice none 0 0)), (.v (.slice none 0 0)), (.v (.slice none 0 0)), (.v (.slice none 0 0)), (.v (.slice none 0 0)), (.v (.slice none 0 0)), (.v (.slice none 0 0)), (.v (.slice none 0 0)), (.v (.slice none 0 0)), (.v (.slice none 0 0)), (.v (.slice none 0 0))]⟩, ⟨none, none, .store 257 (.tmp 11) (.tmp 95)⟩])
  (.seq (.seq (.ops [⟨(some 96), none, .move (.tmp 3)⟩, ⟨(some 97), none, .len (.tmp 96)⟩, ⟨(some 98), none, .bin .sub none (.tmp 97) (.const (.int .i64 2))⟩, ⟨(some 12), none, .move (.tmp 98)⟩])
  (.block 6 (.loop false [3, 11, 12] lp134_3)))
  (.seq (.ops [⟨(some 131), none, .iface 246 (.tmp 11)⟩, ⟨(some 2), none, .move (.tmp 131)⟩])
  .ret))))))))), [(2, none)]⟩
/-- headword/press.sums -/
def lp136_0 : IC := (.seq (.ops [⟨(some 8), none, .bin .lss none (.tmp 7) (.tmp 6)⟩])
  (.seq (.cond (.tmp 8) .skip
  (.exit 0))
  (.seq (.block 1 (.seq (.ops [⟨(some 9), none, .move (.tmp 7)⟩, ⟨(some 4), none, .move (.tmp 9)⟩])
    (.ops [⟨(some 10), none, .move (.tmp 3)⟩, ⟨(some 11), none, .move (.tmp 0)⟩, ⟨(some 12), none, .move (.tmp 4)⟩, ⟨(some 13), none, .bin .add none (.tmp 12) (.const (.int .i64 1))⟩, ⟨(some 14), none, .slice 2 (.tmp 11) none (some (.tmp 13)) none⟩, ⟨(some 15), none, .call true 175 [(.tmp 14), (.const (.int .i64 0))]⟩, ⟨(some 16), none, .call true 174 [(.tmp 15)]⟩, ⟨(some 17), none, .move (.tmp 0)⟩, ⟨(some 18), none, .move (.tmp 4)⟩, ⟨(some 19), none, .slice 2 (.tmp 17) (some (.tmp 18)) none none⟩, ⟨(some 20), none, .call true 175 [(.tmp 19), (.const (.int .i64 1))]⟩, ⟨(some 21), none, .call true 174 [(.tmp 20)]⟩, ⟨(some 22), none, .bin .add none (.tmp 16) (.tmp 21)⟩, ⟨(some 23), none, .lit 1 false (.v (.int .i64 0)) 1 [(0, (.tmp 22))]⟩, ⟨(some 24), none, .append 1 false (.tmp 10) (.tmp 23)⟩, ⟨(some 3), none, .move (.tmp 24)⟩])))
  (.ops [⟨(some 25), none, .bin .add none (.tmp 7) (.const (.int .i64 1))⟩, ⟨(some 7), none, .move (.tmp 25)⟩]))))
def ir136 : IF := ⟨(.seq (.ops [⟨(some 2), none, .move (.const (.slice none 0 0))⟩])
  (.seq (.ops [⟨(some 3), none, .move (.const (.slice none 0 0))⟩])
  (.seq (.seq (.ops [⟨(some 5), none, .move (.tmp 0)⟩, ⟨(some 6), none, .len (.tmp 5)⟩, ⟨(some 7), none, .move (.const (.int .i64 0))⟩])
  (.block 0 (.loop true [0, 3, 6, 7] lp136_0)))
  (.seq (.ops [⟨(some 26), none, .move (.tmp 3)⟩, ⟨(some 2), none, .move (.tmp 26)⟩])
  .ret)))), [(2, none)]⟩
/-- headword/press.greatest[int] -/
def lp137_0 : IC := (.seq (.ops [⟨(some 10), none, .bin .lss none (.tmp 9) (.tmp 8)⟩])
  (.seq (.cond (.tmp 10) .skip
  (.exit 0))
  (.seq (.block 1 (.seq (.ops [⟨(some 11), none, .indexS 1 (.tmp 7) (.tmp 9)⟩, ⟨(some 12), none, .load 1 false (.tmp 11)⟩, ⟨(some 6), none, .move (.tmp 12)⟩])
    (.ops [⟨(some 13), none, .move (.tmp 0)⟩, ⟨(some 14), none, .move (.tmp 6)⟩, ⟨(some 15), none, .max (.tmp 13) (.tmp 14)⟩, ⟨(some 0), none, .move (.tmp 15)⟩])))
  (.ops [⟨(some 16), none, .bin .add none (.tmp 9) (.const (.int .i64 1))⟩, ⟨(some 9), none, .move (.tmp 16)⟩]))))
def ir137 : IF := ⟨(.seq (.ops [⟨(some 4), none, .move (.const (.int .i64 0))⟩])
  (.seq (.seq (.ops [⟨(some 7), none, .move (.tmp 1)⟩, ⟨(some 8), none, .len (.tmp 7)⟩, ⟨(some 9), none, .move (.const (.int .i64 0))⟩])
  (.block 0 (.loop true [0, 7, 8, 9] lp137_0)))
  (.seq (.ops [⟨(some 17), none, .move (.tmp 0)⟩, ⟨(some 4), none, .move (.tmp 17)⟩])
  .ret))), [(4, none)]⟩
/-- headword/press.rule -/
def lp138_0 : IC := (.seq (.ops [⟨(some 10), none, .bin .lss none (.tmp 9) (.tmp 8)⟩])
  (.seq (.cond (.tmp 10) .skip
  (.exit 0))
  (.seq (.block 1 (.seq (.ops [⟨(some 11), none, .move (.tmp 9)⟩, ⟨(some 12), none, .indexS 2 (.tmp 7) (.tmp 9)⟩, ⟨(some 13), none, .load 2 true (.tmp 12)⟩, ⟨(some 6), none, .alloc [(.v (.int .i64 0)), (.v (.int .i64 0))]⟩, ⟨(some 5), none, .move (.tmp 11)⟩, ⟨none, none, .store 2 (.tmp 6) (.tmp 13)⟩])
    (.seq (.ops [⟨(some 14), none, .fieldAddr 0 (.tmp 6)⟩, ⟨(some 15), none, .load 1 false (.tmp 14)⟩, ⟨(some 16), none, .fieldAddr 1 (.tmp 6)⟩, ⟨(some 17), none, .load 1 false (.tmp 16)⟩, ⟨(some 18), none, .bin .lss none (.tmp 15) (.tmp 17)⟩])
    (.cond (.tmp 18) (.ops [⟨(some 19), none, .move (.tmp 3)⟩, ⟨(some 20), none, .move (.tmp 5)⟩, ⟨(some 21), none, .lit 1 false (.v (.int .i64 0)) 1 [(0, (.tmp 20))]⟩, ⟨(some 22), none, .append 1 true (.tmp 19) (.tmp 21)⟩, ⟨(some 3), none, .move (.tmp 22)⟩])
    (.ops [⟨(some 23), none, .move (.tmp 4)⟩, ⟨(some 24), none, .move (.tmp 5)⟩, ⟨(some 25), none, .lit 1 false (.v (.int .i64 0)) 1 [(0, (.tmp 24))]⟩, ⟨(some 26), none, .append 1 true (.tmp 23) (.tmp 25)⟩, ⟨(some 4), none, .move (.tmp 26)⟩])))))
  (.ops [⟨(some 27), none, .bin .add none (.tmp 9) (.const (.int .i64 1))⟩, ⟨(some 9), none, .move (.tmp 27)⟩]))))
def ir138 : IF := ⟨(.seq (.ops [⟨(some 1), none, .box (.tmp 0)⟩, ⟨(some 2), none, .move (.const (.slice none 0 0))⟩])
  (.seq (.ops [⟨(some 3), none, .move (.const (.slice none 0 0))⟩, ⟨(some 4), none, .move (.const (.slice none 0 0))⟩])
  (.seq (.seq (.ops [⟨(some 7), none, .load 1 false (.tmp 1)⟩, ⟨(some 8), none, .len (.tmp 7)⟩, ⟨(some 9), none, .move (.const (.int .i64 0))⟩])
  (.block 0 (.loop true [1, 3, 4, 7, 8, 9] lp138_0)))
  (.seq (.ops [⟨(some 28), none, .move (.tmp 3)⟩, ⟨(some 29), none, .func (.func 176) [] [(.tmp 1)]⟩, ⟨(some 30), none, .call false 98 [(.tmp 28), (.tmp 29)]⟩])
  (.seq (.ops [⟨(some 31), none, .move (.tmp 4)⟩, ⟨(some 32), none, .func (.func 177) [] [(.tmp 1)]⟩, ⟨(some 33), none, .call false 98 [(.tmp 31), (.tmp 32)]⟩])
  (.seq (.ops [⟨(some 34), none, .move (.tmp 3)⟩, ⟨(some 35), none, .move (.tmp 4)⟩, ⟨(some 36), none, .append 1 true (.tmp 34) (.tmp 35)⟩, ⟨(some 2), none, .move (.tmp 36)⟩])
  .ret)))))), [(2, none)]⟩
end Go.Proofs.YtdnjagnechibhaaGreatDoor.Vm
