/- What stands here: functions of this program in the form that the evaluator runs. No condition: a later text proves that they are what the program holds. -/
import Derived.Test.YtdnmhlfjafjkbaaGreatDoorIr2
set_option linter.all false
namespace Go.Proofs.YtdnmhlfjafjkbaaGreatDoor.Vm
open Go Go.Ev
set_option maxRecDepth 100000
def lp189_0:IC:=(.block 1 (.seq (.ops [m_ 13 10,⟨some 14,none,.bin .mul none (k_ 2) (.tmp 13)⟩,⟨some 15,none,.bin .add none (.tmp 14) (k_ 1)⟩,m_ 11 15])
 (.seq (.seq (.ops [m_ 16 11,m_ 17 2,⟨some 18,none,.bin .geq none (.tmp 16) (.tmp 17)⟩])
 (.cond (.tmp 18) (.exit 0)
 .skip))
 (.seq (.seq (.ops [m_ 19 11,⟨some 20,none,.bin .add none (.tmp 19) (k_ 1)⟩,m_ 21 2,⟨some 22,none,.bin .lss none (.tmp 20) (.tmp 21)⟩,m_ 23 22,⟨some 24,some (23,true),.move (.tmp 4)⟩,⟨some 25,some (23,true),.move (.tmp 0)⟩,⟨some 26,some (23,true),.move (.tmp 3)⟩,⟨some 27,some (23,true),.move (.tmp 11)⟩,⟨some 28,some (23,true),.bin .add none (.tmp 26) (.tmp 27)⟩,⟨some 29,some (23,true),.indexS 1 (.tmp 25) (.tmp 28)⟩,⟨some 30,some (23,true),.load 1 true (.tmp 29)⟩,⟨some 31,some (23,true),.move (.tmp 0)⟩,⟨some 32,some (23,true),.move (.tmp 3)⟩,⟨some 33,some (23,true),.move (.tmp 11)⟩,⟨some 34,some (23,true),.bin .add none (.tmp 32) (.tmp 33)⟩,⟨some 35,some (23,true),.bin .add none (.tmp 34) (k_ 1)⟩,⟨some 36,some (23,true),.indexS 1 (.tmp 31) (.tmp 35)⟩,⟨some 37,some (23,true),.load 1 true (.tmp 36)⟩,⟨some 38,some (23,true),.callv true (.tmp 24) [(.tmp 30),(.tmp 37)]⟩,⟨some 39,some (23,true),.bin .lss none (.tmp 38) (k_ 0)⟩,⟨some 40,none,.pick (.tmp 23) (.tmp 39) (.const (.bool false))⟩])
 (.cond (.tmp 40) (.ops [m_ 41 11,⟨some 42,none,.bin .add none (.tmp 41) (k_ 1)⟩,m_ 11 42])
 .skip))
 (.seq (.seq (.ops [m_ 43 4,m_ 44 0,m_ 45 3,m_ 46 10,⟨some 47,none,.bin .add none (.tmp 45) (.tmp 46)⟩,x_ 48 1 44 47,l_ 49 1 true 48,m_ 50 0,m_ 51 3,m_ 52 11,⟨some 53,none,.bin .add none (.tmp 51) (.tmp 52)⟩,x_ 54 1 50 53,l_ 55 1 true 54,⟨some 56,none,.callv true (.tmp 43) [(.tmp 49),(.tmp 55)]⟩,⟨some 57,none,.bin .lss none (.tmp 56) (k_ 0)⟩,⟨some 58,none,.not (.tmp 57)⟩])
 (.cond (.tmp 58) .ret
 .skip))
 (.seq (.ops [m_ 59 0,m_ 60 3,m_ 61 10,⟨some 62,none,.bin .add none (.tmp 60) (.tmp 61)⟩,m_ 63 0,m_ 64 3,m_ 65 11,⟨some 66,none,.bin .add none (.tmp 64) (.tmp 65)⟩,m_ 67 0,m_ 68 3,m_ 69 11,⟨some 70,none,.bin .add none (.tmp 68) (.tmp 69)⟩,x_ 71 1 67 70,l_ 72 1 true 71,m_ 73 0,m_ 74 3,m_ 75 10,⟨some 76,none,.bin .add none (.tmp 74) (.tmp 75)⟩,x_ 77 1 73 76,l_ 78 1 true 77,x_ 79 1 59 62,⟨none,none,.store 1 (.tmp 79) (.tmp 72)⟩,x_ 80 1 63 66,⟨none,none,.store 1 (.tmp 80) (.tmp 78)⟩])
 (.ops [m_ 81 11,m_ 10 81])))))))
def ir189:IF:=⟨(.seq (.ops [m_ 12 1,m_ 10 12])
 (.block 0 (.loop false [0,2,3,4,10] lp189_0))),[]⟩
def ir190:IF:=⟨(.seq (.ops [⟨some 8,none,.move (k_ 0)⟩])
 (.seq (.ops [m_ 9 0,m_ 10 1,⟨some 11,none,.bin .sub none (.tmp 10) (k_ 1)⟩,m_ 12 1,m_ 13 1,⟨some 14,none,.bin .add none (.tmp 13) (k_ 1)⟩,m_ 15 2,m_ 16 3,⟨some 17,none,.call false 191 [(.tmp 9),(.tmp 11),(.tmp 12),(.tmp 14),(.tmp 15),(.tmp 16)]⟩,m_ 8 17])
 .ret)),[(8,none)]⟩
def ir191:IF:=⟨(.seq (.ops [⟨some 12,none,.move (k_ 0)⟩])
 (.seq (.ops [m_ 14 0,m_ 15 1,m_ 16 2,m_ 17 4,m_ 18 5,⟨some 19,none,.call false 199 [(.tmp 14),(.tmp 15),(.tmp 16),(.tmp 17),(.tmp 18)]⟩,m_ 13 19,⟨some 20,none,.extract 0 (.tmp 13)⟩,⟨some 21,none,.extract 1 (.tmp 13)⟩,m_ 1 20,m_ 2 21])
 (.seq (.ops [m_ 23 0,m_ 24 2,m_ 25 3,m_ 26 4,m_ 27 5,⟨some 28,none,.call false 199 [(.tmp 23),(.tmp 24),(.tmp 25),(.tmp 26),(.tmp 27)]⟩,m_ 22 28,⟨some 29,none,.extract 0 (.tmp 22)⟩,⟨some 30,none,.extract 1 (.tmp 22)⟩,m_ 2 29,m_ 3 30])
 (.seq (.ops [m_ 32 0,m_ 33 1,m_ 34 2,m_ 35 4,m_ 36 5,⟨some 37,none,.call false 199 [(.tmp 32),(.tmp 33),(.tmp 34),(.tmp 35),(.tmp 36)]⟩,m_ 31 37,⟨some 38,none,.extract 0 (.tmp 31)⟩,⟨some 39,none,.extract 1 (.tmp 31)⟩,m_ 1 38,m_ 2 39])
 (.seq (.ops [m_ 40 2,m_ 12 40])
 .ret))))),[(12,none)]⟩
def lp193_0:IC:=(.seq (.seq (.ops [m_ 18 10,m_ 19 11,⟨some 20,none,.bin .neq none (.tmp 18) (.tmp 19)⟩])
 (.cond (.tmp 20) .skip
 (.exit 0)))
 (.block 1 (.seq (.ops [m_ 21 10,m_ 22 11,⟨some 23,none,.bin .gtr none (.tmp 21) (.tmp 22)⟩])
  (.cond (.tmp 23) (.seq (.ops [m_ 24 0,m_ 25 2,m_ 26 10,⟨some 27,none,.bin .sub none (.tmp 25) (.tmp 26)⟩,m_ 28 2,m_ 29 11,m_ 30 4,⟨some 31,none,.call false 200 [(.tmp 24),(.tmp 27),(.tmp 28),(.tmp 29),(.tmp 30)]⟩])
   (.ops [m_ 32 10,m_ 33 11,⟨some 34,none,.bin .sub none (.tmp 32) (.tmp 33)⟩,m_ 10 34]))
  (.seq (.ops [m_ 35 0,m_ 36 2,m_ 37 10,⟨some 38,none,.bin .sub none (.tmp 36) (.tmp 37)⟩,m_ 39 2,m_ 40 11,⟨some 41,none,.bin .add none (.tmp 39) (.tmp 40)⟩,m_ 42 10,⟨some 43,none,.bin .sub none (.tmp 41) (.tmp 42)⟩,m_ 44 10,m_ 45 4,⟨some 46,none,.call false 200 [(.tmp 35),(.tmp 38),(.tmp 43),(.tmp 44),(.tmp 45)]⟩])
   (.ops [m_ 47 11,m_ 48 10,⟨some 49,none,.bin .sub none (.tmp 47) (.tmp 48)⟩,m_ 11 49]))))))
def ir193:IF:=⟨(.seq (.ops [m_ 12 2,m_ 13 1,⟨some 14,none,.bin .sub none (.tmp 12) (.tmp 13)⟩,m_ 10 14])
 (.seq (.ops [m_ 15 3,m_ 16 2,⟨some 17,none,.bin .sub none (.tmp 15) (.tmp 16)⟩,m_ 11 17])
 (.seq (.block 0 (.loop false [0,2,4,10,11] lp193_0))
 (.ops [m_ 50 0,m_ 51 2,m_ 52 10,⟨some 53,none,.bin .sub none (.tmp 51) (.tmp 52)⟩,m_ 54 2,m_ 55 10,m_ 56 4,⟨some 57,none,.call false 200 [(.tmp 50),(.tmp 53),(.tmp 54),(.tmp 55),(.tmp 56)]⟩])))),[]⟩
def lp194_0:IC:=(.block 1 (.seq (.ops [m_ 13 10,⟨some 14,none,.bin .mul none (k_ 2) (.tmp 13)⟩,⟨some 15,none,.bin .add none (.tmp 14) (k_ 1)⟩,m_ 11 15])
 (.seq (.seq (.ops [m_ 16 11,m_ 17 2,⟨some 18,none,.bin .geq none (.tmp 16) (.tmp 17)⟩])
 (.cond (.tmp 18) (.exit 0)
 .skip))
 (.seq (.seq (.ops [m_ 19 11,⟨some 20,none,.bin .add none (.tmp 19) (k_ 1)⟩,m_ 21 2,⟨some 22,none,.bin .lss none (.tmp 20) (.tmp 21)⟩,m_ 23 22,⟨some 24,some (23,true),.move (.tmp 4)⟩,⟨some 25,some (23,true),.move (.tmp 0)⟩,⟨some 26,some (23,true),.move (.tmp 3)⟩,⟨some 27,some (23,true),.move (.tmp 11)⟩,⟨some 28,some (23,true),.bin .add none (.tmp 26) (.tmp 27)⟩,⟨some 29,some (23,true),.indexS 1 (.tmp 25) (.tmp 28)⟩,⟨some 30,some (23,true),.load 1 false (.tmp 29)⟩,⟨some 31,some (23,true),.move (.tmp 0)⟩,⟨some 32,some (23,true),.move (.tmp 3)⟩,⟨some 33,some (23,true),.move (.tmp 11)⟩,⟨some 34,some (23,true),.bin .add none (.tmp 32) (.tmp 33)⟩,⟨some 35,some (23,true),.bin .add none (.tmp 34) (k_ 1)⟩,⟨some 36,some (23,true),.indexS 1 (.tmp 31) (.tmp 35)⟩,⟨some 37,some (23,true),.load 1 false (.tmp 36)⟩,⟨some 38,some (23,true),.callv false (.tmp 24) [(.tmp 30),(.tmp 37)]⟩,⟨some 39,some (23,true),.bin .lss none (.tmp 38) (k_ 0)⟩,⟨some 40,none,.pick (.tmp 23) (.tmp 39) (.const (.bool false))⟩])
 (.cond (.tmp 40) (.ops [m_ 41 11,⟨some 42,none,.bin .add none (.tmp 41) (k_ 1)⟩,m_ 11 42])
 .skip))
 (.seq (.seq (.ops [m_ 43 4,m_ 44 0,m_ 45 3,m_ 46 10,⟨some 47,none,.bin .add none (.tmp 45) (.tmp 46)⟩,x_ 48 1 44 47,l_ 49 1 false 48,m_ 50 0,m_ 51 3,m_ 52 11,⟨some 53,none,.bin .add none (.tmp 51) (.tmp 52)⟩,x_ 54 1 50 53,l_ 55 1 false 54,⟨some 56,none,.callv false (.tmp 43) [(.tmp 49),(.tmp 55)]⟩,⟨some 57,none,.bin .lss none (.tmp 56) (k_ 0)⟩,⟨some 58,none,.not (.tmp 57)⟩])
 (.cond (.tmp 58) .ret
 .skip))
 (.seq (.ops [m_ 59 0,m_ 60 3,m_ 61 10,⟨some 62,none,.bin .add none (.tmp 60) (.tmp 61)⟩,m_ 63 0,m_ 64 3,m_ 65 11,⟨some 66,none,.bin .add none (.tmp 64) (.tmp 65)⟩,m_ 67 0,m_ 68 3,m_ 69 11,⟨some 70,none,.bin .add none (.tmp 68) (.tmp 69)⟩,x_ 71 1 67 70,l_ 72 1 false 71,m_ 73 0,m_ 74 3,m_ 75 10,⟨some 76,none,.bin .add none (.tmp 74) (.tmp 75)⟩,x_ 77 1 73 76,l_ 78 1 false 77,x_ 79 1 59 62,⟨none,none,.store 1 (.tmp 79) (.tmp 72)⟩,x_ 80 1 63 66,⟨none,none,.store 1 (.tmp 80) (.tmp 78)⟩])
 (.ops [m_ 81 11,m_ 10 81])))))))
def ir194:IF:=⟨(.seq (.ops [m_ 12 1,m_ 10 12])
 (.block 0 (.loop false [0,2,3,4,10] lp194_0))),[]⟩
def ir195:IF:=⟨(.seq (.ops [⟨some 8,none,.move (k_ 0)⟩])
 (.seq (.ops [m_ 9 0,m_ 10 1,⟨some 11,none,.bin .sub none (.tmp 10) (k_ 1)⟩,m_ 12 1,m_ 13 1,⟨some 14,none,.bin .add none (.tmp 13) (k_ 1)⟩,m_ 15 2,m_ 16 3,⟨some 17,none,.call false 196 [(.tmp 9),(.tmp 11),(.tmp 12),(.tmp 14),(.tmp 15),(.tmp 16)]⟩,m_ 8 17])
 .ret)),[(8,none)]⟩
def ir196:IF:=⟨(.seq (.ops [⟨some 12,none,.move (k_ 0)⟩])
 (.seq (.ops [m_ 14 0,m_ 15 1,m_ 16 2,m_ 17 4,m_ 18 5,⟨some 19,none,.call false 201 [(.tmp 14),(.tmp 15),(.tmp 16),(.tmp 17),(.tmp 18)]⟩,m_ 13 19,⟨some 20,none,.extract 0 (.tmp 13)⟩,⟨some 21,none,.extract 1 (.tmp 13)⟩,m_ 1 20,m_ 2 21])
 (.seq (.ops [m_ 23 0,m_ 24 2,m_ 25 3,m_ 26 4,m_ 27 5,⟨some 28,none,.call false 201 [(.tmp 23),(.tmp 24),(.tmp 25),(.tmp 26),(.tmp 27)]⟩,m_ 22 28,⟨some 29,none,.extract 0 (.tmp 22)⟩,⟨some 30,none,.extract 1 (.tmp 22)⟩,m_ 2 29,m_ 3 30])
 (.seq (.ops [m_ 32 0,m_ 33 1,m_ 34 2,m_ 35 4,m_ 36 5,⟨some 37,none,.call false 201 [(.tmp 32),(.tmp 33),(.tmp 34),(.tmp 35),(.tmp 36)]⟩,m_ 31 37,⟨some 38,none,.extract 0 (.tmp 31)⟩,⟨some 39,none,.extract 1 (.tmp 31)⟩,m_ 1 38,m_ 2 39])
 (.seq (.ops [m_ 40 2,m_ 12 40])
 .ret))))),[(12,none)]⟩
def ir199:IF:=⟨(.seq (.ops [⟨some 10,none,.move (k_ 0)⟩,⟨some 11,none,.move (k_ 0)⟩])
 (.seq (.seq (.ops [m_ 12 4,m_ 13 0,m_ 14 2,x_ 15 1 13 14,l_ 16 1 true 15,m_ 17 0,m_ 18 1,x_ 19 1 17 18,l_ 20 1 true 19,⟨some 21,none,.callv true (.tmp 12) [(.tmp 16),(.tmp 20)]⟩,⟨some 22,none,.bin .lss none (.tmp 21) (k_ 0)⟩])
 (.cond (.tmp 22) (.seq (.ops [m_ 23 3,⟨some 24,none,.nil (.tmp 23)⟩,l_ 25 1 false 24,⟨some 26,none,.bin .add none (.tmp 25) (k_ 1)⟩,⟨some 27,none,.nil (.tmp 23)⟩,⟨none,none,.store 1 (.tmp 27) (.tmp 26)⟩])
  (.seq (.ops [m_ 28 2,m_ 29 1,m_ 10 28,m_ 11 29])
  .ret))
 .skip))
 (.seq (.ops [m_ 30 1,m_ 31 2,m_ 10 30,m_ 11 31])
 .ret))),[(10,none),(11,none)]⟩
def lp200_0:IC:=(.seq (.seq (.ops [m_ 11 10,m_ 12 3,⟨some 13,none,.bin .lss none (.tmp 11) (.tmp 12)⟩])
 (.cond (.tmp 13) .skip
 (.exit 0)))
 (.seq (.block 1 (.ops [m_ 16 0,m_ 17 1,m_ 18 10,⟨some 19,none,.bin .add none (.tmp 17) (.tmp 18)⟩,m_ 20 0,m_ 21 2,m_ 22 10,⟨some 23,none,.bin .add none (.tmp 21) (.tmp 22)⟩,m_ 24 0,m_ 25 2,m_ 26 10,⟨some 27,none,.bin .add none (.tmp 25) (.tmp 26)⟩,x_ 28 1 24 27,l_ 29 1 false 28,m_ 30 0,m_ 31 1,m_ 32 10,⟨some 33,none,.bin .add none (.tmp 31) (.tmp 32)⟩,x_ 34 1 30 33,l_ 35 1 false 34,x_ 36 1 16 19,⟨none,none,.store 1 (.tmp 36) (.tmp 29)⟩,x_ 37 1 20 23,⟨none,none,.store 1 (.tmp 37) (.tmp 35)⟩]))
 (.ops [m_ 14 10,⟨some 15,none,.bin .add none (.tmp 14) (k_ 1)⟩,m_ 10 15])))
def ir200:IF:=⟨(.seq (.ops [⟨some 10,none,.move (k_ 0)⟩])
 (.block 0 (.loop false [0,1,2,3,10] lp200_0))),[]⟩
def ir201:IF:=⟨(.seq (.ops [⟨some 10,none,.move (k_ 0)⟩,⟨some 11,none,.move (k_ 0)⟩])
 (.seq (.seq (.ops [m_ 12 4,m_ 13 0,m_ 14 2,x_ 15 1 13 14,l_ 16 1 false 15,m_ 17 0,m_ 18 1,x_ 19 1 17 18,l_ 20 1 false 19,⟨some 21,none,.callv false (.tmp 12) [(.tmp 16),(.tmp 20)]⟩,⟨some 22,none,.bin .lss none (.tmp 21) (k_ 0)⟩])
 (.cond (.tmp 22) (.seq (.ops [m_ 23 3,⟨some 24,none,.nil (.tmp 23)⟩,l_ 25 1 false 24,⟨some 26,none,.bin .add none (.tmp 25) (k_ 1)⟩,⟨some 27,none,.nil (.tmp 23)⟩,⟨none,none,.store 1 (.tmp 27) (.tmp 26)⟩])
  (.seq (.ops [m_ 28 2,m_ 29 1,m_ 10 28,m_ 11 29])
  .ret))
 .skip))
 (.seq (.ops [m_ 30 1,m_ 31 2,m_ 10 30,m_ 11 31])
 .ret))),[(10,none),(11,none)]⟩
end Go.Proofs.YtdnmhlfjafjkbaaGreatDoor.Vm
