/- What stands here: functions of this program in the form that the evaluator runs. No condition: a later text proves that they are what the program holds. -/
import Derived.Test.YtgohohiaaiogcaaDoorIr1
set_option linter.all false
namespace Go.Proofs.YtgohohiaaiogcaaDoor.Vm
open Go Go.Ev
set_option maxRecDepth 100000
/-- (*headword/see.tally).take -/
def lp146_0 : IC := (.seq (.ops [⟨(some 16), none, .bin .lss none (.tmp 15) (.tmp 14)⟩])
  (.seq (.cond (.tmp 16) .skip
  (.exit 0))
  (.seq (.block 1 (.seq (.ops [⟨(some 17), none, .move (.tmp 15)⟩, ⟨(some 18), none, .indexS 1 (.tmp 13) (.tmp 15)⟩, ⟨(some 19), none, .load 1 false (.tmp 18)⟩, ⟨(some 4), none, .move (.tmp 17)⟩, ⟨(some 5), none, .move (.tmp 19)⟩])
    (.ops [⟨(some 20), none, .move (.tmp 0)⟩, ⟨(some 21), none, .move (.tmp 5)⟩, ⟨(some 22), none, .move (.tmp 1)⟩, ⟨(some 23), none, .move (.tmp 4)⟩, ⟨(some 24), none, .bin .add none (.tmp 23) (.const (.int .i64 1))⟩, ⟨(some 25), none, .move (.tmp 1)⟩, ⟨(some 26), none, .len (.tmp 25)⟩, ⟨(some 27), none, .bin .rem none (.tmp 24) (.tmp 26)⟩, ⟨(some 28), none, .indexS 1 (.tmp 22) (.tmp 27)⟩, ⟨(some 29), none, .load 1 false (.tmp 28)⟩, ⟨(some 30), none, .nil (.tmp 20)⟩, ⟨(some 31), none, .fieldAddr 1 (.tmp 30)⟩, ⟨(some 32), none, .indexA 7 7 (.tmp 31) (.tmp 21)⟩, ⟨(some 33), none, .indexA 7 1 (.tmp 32) (.tmp 29)⟩, ⟨(some 34), none, .load 1 false (.tmp 33)⟩, ⟨(some 35), none, .bin .add none (.tmp 34) (.const (.int .i64 1))⟩, ⟨(some 36), none, .nil (.tmp 20)⟩, ⟨(some 37), none, .fieldAddr 1 (.tmp 36)⟩, ⟨(some 38), none, .indexA 7 7 (.tmp 37) (.tmp 21)⟩, ⟨(some 39), none, .indexA 7 1 (.tmp 38) (.tmp 29)⟩, ⟨none, none, .store 1 (.tmp 39) (.tmp 35)⟩])))
  (.ops [⟨(some 40), none, .bin .add none (.tmp 15) (.const (.int .i64 1))⟩, ⟨(some 15), none, .move (.tmp 40)⟩]))))
def ir146 : IF := ⟨(.seq (.ops [⟨(some 6), none, .move (.tmp 0)⟩, ⟨(some 7), none, .nil (.tmp 6)⟩, ⟨(some 8), none, .fieldAddr 0 (.tmp 7)⟩, ⟨(some 9), none, .load 1 false (.tmp 8)⟩, ⟨(some 10), none, .bin .add none (.tmp 9) (.const (.int .i64 1))⟩, ⟨(some 11), none, .nil (.tmp 6)⟩, ⟨(some 12), none, .fieldAddr 0 (.tmp 11)⟩, ⟨none, none, .store 1 (.tmp 12) (.tmp 10)⟩])
  (.seq (.ops [⟨(some 13), none, .move (.tmp 1)⟩, ⟨(some 14), none, .len (.tmp 13)⟩, ⟨(some 15), none, .move (.const (.int .i64 0))⟩])
  (.block 0 (.loop false [0, 1, 13, 14, 15] lp146_0)))), []⟩
end Go.Proofs.YtgohohiaaiogcaaDoor.Vm
