/- What stands here: functions of this program in the form that the evaluator runs. No condition: a later text proves that they are what the program holds. -/
import Derived.Test.YtdnjagnechibhaaGreatDoorIr3
set_option linter.all false
namespace Go.Proofs.YtdnjagnechibhaaGreatDoor.Vm
open Go Go.Ev
set_option maxRecDepth 100000
def lp292_0:IC:=(.seq (q_ ([m_ 31 11,m_ 32 12,b_ 33 .leq 31 32,m_ 34 33,g_ 35 34 true 4,g_ 36 34 true 0,g_ 37 34 true 1,⟨some 38,some (34,true),.indexS 1 (t_ 36) (t_ 37)⟩,⟨some 39,some (34,true),.load 1 false (t_ 38)⟩,g_ 40 34 true 0,g_ 41 34 true 11,⟨some 42,some (34,true),.indexS 1 (t_ 40) (t_ 41)⟩,⟨some 43,some (34,true),.load 1 false (t_ 42)⟩,⟨some 44,some (34,true),.callv false (t_ 35) [t_ 39,t_ 43]⟩,⟨some 45,some (34,true),.bin .lss none (t_ 44) (k_ 0)⟩,⟨some 46,some (34,true),.not (t_ 45)⟩,o_ 47 (.pick (t_ 34) (t_ 46) (.const (.bool false)))])
 (.cond (t_ 47) .skip
 (.exit 2)))
 (.block 3 (.ops [m_ 48 11,a_ 49 48 1,m_ 11 49])))
def lp292_1:IC:=(.seq (q_ ([m_ 50 11,m_ 51 12,b_ 52 .leq 50 51,m_ 53 52,g_ 54 53 true 4,g_ 55 53 true 0,g_ 56 53 true 1,⟨some 57,some (53,true),.indexS 1 (t_ 55) (t_ 56)⟩,⟨some 58,some (53,true),.load 1 false (t_ 57)⟩,g_ 59 53 true 0,g_ 60 53 true 12,⟨some 61,some (53,true),.indexS 1 (t_ 59) (t_ 60)⟩,⟨some 62,some (53,true),.load 1 false (t_ 61)⟩,⟨some 63,some (53,true),.callv false (t_ 54) [t_ 58,t_ 62]⟩,⟨some 64,some (53,true),.bin .lss none (t_ 63) (k_ 0)⟩,o_ 65 (.pick (t_ 53) (t_ 64) (.const (.bool false)))])
 (.cond (t_ 65) .skip
 (.exit 4)))
 (.block 5 (.ops [m_ 66 12,s_ 67 66 1,m_ 12 67])))
def lp292_2:IC:=(.block 1 (.seq (.block 2 (.loop false [0,1,4,11,12] lp292_0))
 (.seq (.block 4 (.loop false [0,1,4,11,12] lp292_1))
 (.seq (q_ ([m_ 68 11,m_ 69 12,b_ 70 .gtr 68 69])
 (.cond (t_ 70) (.exit 0)
 .skip))
 (q_ ([m_ 71 0,m_ 72 11,m_ 73 0,m_ 74 12,m_ 75 0,m_ 76 12,x_ 77 1 75 76,l_ 78 1 false 77,m_ 79 0,m_ 80 11,x_ 81 1 79 80,l_ 82 1 false 81,x_ 83 1 71 72,u_ 1 83 78,x_ 84 1 73 74,u_ 1 84 82])
 (q_ ([m_ 85 11,a_ 86 85 1,m_ 11 86])
 (.ops [m_ 87 12,s_ 88 87 1,m_ 12 88])))))))
def ir292:IF:=⟨(q_ ([c_ 10 0])
 (q_ ([m_ 13 0,m_ 14 1,m_ 15 0,m_ 16 3,m_ 17 0,m_ 18 3,x_ 19 1 17 18,l_ 20 1 false 19,m_ 21 0,m_ 22 1,x_ 23 1 21 22,l_ 24 1 false 23,x_ 25 1 13 14,u_ 1 25 20,x_ 26 1 15 16,u_ 1 26 24])
 (q_ ([m_ 27 1,a_ 28 27 1,m_ 29 2,s_ 30 29 1,m_ 11 28,m_ 12 30])
 (.seq (.block 0 (.loop false [0,1,4,11,12] lp292_2))
 (q_ ([m_ 89 11,m_ 10 89])
 .ret))))),[(10,none)]⟩
def lp293_0:IC:=(.seq (q_ ([m_ 32 12,m_ 33 13,b_ 34 .leq 32 33,m_ 35 34,g_ 36 35 true 4,g_ 37 35 true 0,g_ 38 35 true 12,⟨some 39,some (35,true),.indexS 1 (t_ 37) (t_ 38)⟩,⟨some 40,some (35,true),.load 1 false (t_ 39)⟩,g_ 41 35 true 0,g_ 42 35 true 1,⟨some 43,some (35,true),.indexS 1 (t_ 41) (t_ 42)⟩,⟨some 44,some (35,true),.load 1 false (t_ 43)⟩,⟨some 45,some (35,true),.callv false (t_ 36) [t_ 40,t_ 44]⟩,⟨some 46,some (35,true),.bin .lss none (t_ 45) (k_ 0)⟩,o_ 47 (.pick (t_ 35) (t_ 46) (.const (.bool false)))])
 (.cond (t_ 47) .skip
 (.exit 0)))
 (.block 1 (.ops [m_ 48 12,a_ 49 48 1,m_ 12 49])))
def lp293_1:IC:=(.seq (q_ ([m_ 50 12,m_ 51 13,b_ 52 .leq 50 51,m_ 53 52,g_ 54 53 true 4,g_ 55 53 true 0,g_ 56 53 true 13,⟨some 57,some (53,true),.indexS 1 (t_ 55) (t_ 56)⟩,⟨some 58,some (53,true),.load 1 false (t_ 57)⟩,g_ 59 53 true 0,g_ 60 53 true 1,⟨some 61,some (53,true),.indexS 1 (t_ 59) (t_ 60)⟩,⟨some 62,some (53,true),.load 1 false (t_ 61)⟩,⟨some 63,some (53,true),.callv false (t_ 54) [t_ 58,t_ 62]⟩,⟨some 64,some (53,true),.bin .lss none (t_ 63) (k_ 0)⟩,⟨some 65,some (53,true),.not (t_ 64)⟩,o_ 66 (.pick (t_ 53) (t_ 65) (.const (.bool false)))])
 (.cond (t_ 66) .skip
 (.exit 2)))
 (.block 3 (.ops [m_ 67 13,s_ 68 67 1,m_ 13 68])))
def lp293_2:IC:=(.seq (q_ ([m_ 105 12,m_ 106 13,b_ 107 .leq 105 106,m_ 108 107,g_ 109 108 true 4,g_ 110 108 true 0,g_ 111 108 true 12,⟨some 112,some (108,true),.indexS 1 (t_ 110) (t_ 111)⟩,⟨some 113,some (108,true),.load 1 false (t_ 112)⟩,g_ 114 108 true 0,g_ 115 108 true 1,⟨some 116,some (108,true),.indexS 1 (t_ 114) (t_ 115)⟩,⟨some 117,some (108,true),.load 1 false (t_ 116)⟩,⟨some 118,some (108,true),.callv false (t_ 109) [t_ 113,t_ 117]⟩,⟨some 119,some (108,true),.bin .lss none (t_ 118) (k_ 0)⟩,o_ 120 (.pick (t_ 108) (t_ 119) (.const (.bool false)))])
 (.cond (t_ 120) .skip
 (.exit 6)))
 (.block 7 (.ops [m_ 121 12,a_ 122 121 1,m_ 12 122])))
def lp293_3:IC:=(.seq (q_ ([m_ 123 12,m_ 124 13,b_ 125 .leq 123 124,m_ 126 125,g_ 127 126 true 4,g_ 128 126 true 0,g_ 129 126 true 13,⟨some 130,some (126,true),.indexS 1 (t_ 128) (t_ 129)⟩,⟨some 131,some (126,true),.load 1 false (t_ 130)⟩,g_ 132 126 true 0,g_ 133 126 true 1,⟨some 134,some (126,true),.indexS 1 (t_ 132) (t_ 133)⟩,⟨some 135,some (126,true),.load 1 false (t_ 134)⟩,⟨some 136,some (126,true),.callv false (t_ 127) [t_ 131,t_ 135]⟩,⟨some 137,some (126,true),.bin .lss none (t_ 136) (k_ 0)⟩,⟨some 138,some (126,true),.not (t_ 137)⟩,o_ 139 (.pick (t_ 126) (t_ 138) (.const (.bool false)))])
 (.cond (t_ 139) .skip
 (.exit 8)))
 (.block 9 (.ops [m_ 140 13,s_ 141 140 1,m_ 13 141])))
def lp293_4:IC:=(.block 5 (.seq (.block 6 (.loop false [0,1,4,12,13] lp293_2))
 (.seq (.block 8 (.loop false [0,1,4,12,13] lp293_3))
 (.seq (q_ ([m_ 142 12,m_ 143 13,b_ 144 .gtr 142 143])
 (.cond (t_ 144) (.exit 4)
 .skip))
 (q_ ([m_ 145 0,m_ 146 12,m_ 147 0,m_ 148 13,m_ 149 0,m_ 150 13,x_ 151 1 149 150,l_ 152 1 false 151,m_ 153 0,m_ 154 12,x_ 155 1 153 154,l_ 156 1 false 155,x_ 157 1 145 146,u_ 1 157 152,x_ 158 1 147 148,u_ 1 158 156])
 (q_ ([m_ 159 12,a_ 160 159 1,m_ 12 160])
 (.ops [m_ 161 13,s_ 162 161 1,m_ 13 162])))))))
def ir293:IF:=⟨(q_ ([c_ 10 0,o_ 11 (.move (.const (.bool false)))])
 (q_ ([m_ 14 0,m_ 15 1,m_ 16 0,m_ 17 3,m_ 18 0,m_ 19 3,x_ 20 1 18 19,l_ 21 1 false 20,m_ 22 0,m_ 23 1,x_ 24 1 22 23,l_ 25 1 false 24,x_ 26 1 14 15,u_ 1 26 21,x_ 27 1 16 17,u_ 1 27 25])
 (q_ ([m_ 28 1,a_ 29 28 1,m_ 30 2,s_ 31 30 1,m_ 12 29,m_ 13 31])
 (.seq (.block 0 (.loop false [0,1,4,12,13] lp293_0))
 (.seq (.block 2 (.loop false [0,1,4,12,13] lp293_1))
 (.seq (q_ ([m_ 69 12,m_ 70 13,b_ 71 .gtr 69 70])
 (.cond (t_ 71) (q_ ([m_ 72 0,m_ 73 13,m_ 74 0,m_ 75 1,m_ 76 0,m_ 77 1,x_ 78 1 76 77,l_ 79 1 false 78,m_ 80 0,m_ 81 13,x_ 82 1 80 81,l_ 83 1 false 82,x_ 84 1 72 73,u_ 1 84 79,x_ 85 1 74 75,u_ 1 85 83])
  (q_ ([m_ 86 13,m_ 10 86,o_ 11 (.move (.const (.bool true)))])
  .ret))
 .skip))
 (q_ ([m_ 87 0,m_ 88 12,m_ 89 0,m_ 90 13,m_ 91 0,m_ 92 13,x_ 93 1 91 92,l_ 94 1 false 93,m_ 95 0,m_ 96 12,x_ 97 1 95 96,l_ 98 1 false 97,x_ 99 1 87 88,u_ 1 99 94,x_ 100 1 89 90,u_ 1 100 98])
 (q_ ([m_ 101 12,a_ 102 101 1,m_ 12 102])
 (q_ ([m_ 103 13,s_ 104 103 1,m_ 13 104])
 (.seq (.block 4 (.loop false [0,1,4,12,13] lp293_4))
 (q_ ([m_ 163 0,m_ 164 13,m_ 165 0,m_ 166 1,m_ 167 0,m_ 168 1,x_ 169 1 167 168,l_ 170 1 false 169,m_ 171 0,m_ 172 13,x_ 173 1 171 172,l_ 174 1 false 173,x_ 175 1 163 164,u_ 1 175 170,x_ 176 1 165 166,u_ 1 176 174])
 (q_ ([m_ 177 13,m_ 10 177,o_ 11 (.move (.const (.bool false)))])
 .ret)))))))))))),[(10,none),(11,none)]⟩
def lp295_0:IC:=(.block 1 (q_ ([m_ 13 10,o_ 14 (.bin .mul none (k_ 2) (t_ 13)),a_ 15 14 1,m_ 11 15])
 (.seq (q_ ([m_ 16 11,m_ 17 2,b_ 18 .geq 16 17])
 (.cond (t_ 18) (.exit 0)
 .skip))
 (.seq (q_ ([m_ 19 11,a_ 20 19 1,m_ 21 2,b_ 22 .lss 20 21,m_ 23 22,g_ 24 23 true 4,g_ 25 23 true 0,g_ 26 23 true 3,g_ 27 23 true 11,⟨some 28,some (23,true),.bin .add none (t_ 26) (t_ 27)⟩,⟨some 29,some (23,true),.indexS 1 (t_ 25) (t_ 28)⟩,⟨some 30,some (23,true),.load 1 false (t_ 29)⟩,g_ 31 23 true 0,g_ 32 23 true 3,g_ 33 23 true 11,⟨some 34,some (23,true),.bin .add none (t_ 32) (t_ 33)⟩,⟨some 35,some (23,true),.bin .add none (t_ 34) (k_ 1)⟩,⟨some 36,some (23,true),.indexS 1 (t_ 31) (t_ 35)⟩,⟨some 37,some (23,true),.load 1 false (t_ 36)⟩,⟨some 38,some (23,true),.callv false (t_ 24) [t_ 30,t_ 37]⟩,⟨some 39,some (23,true),.bin .lss none (t_ 38) (k_ 0)⟩,o_ 40 (.pick (t_ 23) (t_ 39) (.const (.bool false)))])
 (.cond (t_ 40) (.ops [m_ 41 11,a_ 42 41 1,m_ 11 42])
 .skip))
 (.seq (q_ ([m_ 43 4,m_ 44 0,m_ 45 3,m_ 46 10,b_ 47 .add 45 46,x_ 48 1 44 47,l_ 49 1 false 48,m_ 50 0,m_ 51 3,m_ 52 11,b_ 53 .add 51 52,x_ 54 1 50 53,l_ 55 1 false 54,o_ 56 (.callv false (t_ 43) [t_ 49,t_ 55]),o_ 57 (.bin .lss none (t_ 56) (k_ 0)),o_ 58 (.not (t_ 57))])
 (.cond (t_ 58) .ret
 .skip))
 (q_ ([m_ 59 0,m_ 60 3,m_ 61 10,b_ 62 .add 60 61,m_ 63 0,m_ 64 3,m_ 65 11,b_ 66 .add 64 65,m_ 67 0,m_ 68 3,m_ 69 11,b_ 70 .add 68 69,x_ 71 1 67 70,l_ 72 1 false 71,m_ 73 0,m_ 74 3,m_ 75 10,b_ 76 .add 74 75,x_ 77 1 73 76,l_ 78 1 false 77,x_ 79 1 59 62,u_ 1 79 72,x_ 80 1 63 66,u_ 1 80 78])
 (.ops [m_ 81 11,m_ 10 81])))))))
def ir295:IF:=⟨(q_ ([m_ 12 1,m_ 10 12])
 (.block 0 (.loop false [0,2,3,4,10] lp295_0))),[]⟩
def ir296:IF:=⟨(q_ ([c_ 8 0])
 (q_ ([m_ 9 0,m_ 10 1,s_ 11 10 1,m_ 12 1,m_ 13 1,a_ 14 13 1,m_ 15 2,m_ 16 3,o_ 17 (.call false 297 [t_ 9,t_ 11,t_ 12,t_ 14,t_ 15,t_ 16]),m_ 8 17])
 .ret)),[(8,none)]⟩
def ir297:IF:=⟨(q_ ([c_ 12 0])
 (q_ ([m_ 14 0,m_ 15 1,m_ 16 2,m_ 17 4,m_ 18 5,o_ 19 (.call false 298 [t_ 14,t_ 15,t_ 16,t_ 17,t_ 18]),m_ 13 19,o_ 20 (.extract 0 (t_ 13)),o_ 21 (.extract 1 (t_ 13)),m_ 1 20,m_ 2 21])
 (q_ ([m_ 23 0,m_ 24 2,m_ 25 3,m_ 26 4,m_ 27 5,o_ 28 (.call false 298 [t_ 23,t_ 24,t_ 25,t_ 26,t_ 27]),m_ 22 28,o_ 29 (.extract 0 (t_ 22)),o_ 30 (.extract 1 (t_ 22)),m_ 2 29,m_ 3 30])
 (q_ ([m_ 32 0,m_ 33 1,m_ 34 2,m_ 35 4,m_ 36 5,o_ 37 (.call false 298 [t_ 32,t_ 33,t_ 34,t_ 35,t_ 36]),m_ 31 37,o_ 38 (.extract 0 (t_ 31)),o_ 39 (.extract 1 (t_ 31)),m_ 1 38,m_ 2 39])
 (q_ ([m_ 40 2,m_ 12 40])
 .ret))))),[(12,none)]⟩
def ir298:IF:=⟨(q_ ([c_ 10 0,c_ 11 0])
 (.seq (q_ ([m_ 12 4,m_ 13 0,m_ 14 2,x_ 15 1 13 14,l_ 16 1 false 15,m_ 17 0,m_ 18 1,x_ 19 1 17 18,l_ 20 1 false 19,o_ 21 (.callv false (t_ 12) [t_ 16,t_ 20]),o_ 22 (.bin .lss none (t_ 21) (k_ 0))])
 (.cond (t_ 22) (q_ ([m_ 23 3,o_ 24 (.nil (t_ 23)),l_ 25 1 false 24,a_ 26 25 1,o_ 27 (.nil (t_ 23)),u_ 1 27 26])
  (q_ ([m_ 28 2,m_ 29 1,m_ 10 28,m_ 11 29])
  .ret))
 .skip))
 (q_ ([m_ 30 1,m_ 31 2,m_ 10 30,m_ 11 31])
 .ret))),[(10,none),(11,none)]⟩
end Go.Proofs.YtdnjagnechibhaaGreatDoor.Vm
