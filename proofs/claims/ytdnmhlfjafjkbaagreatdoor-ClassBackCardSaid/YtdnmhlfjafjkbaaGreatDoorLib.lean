/- What is proved: each function of the table is the function of that number in the given program. No condition. -/
import Derived.Test.YtdnmhlfjafjkbaaGreatDoorIr3
import Derived.Test.YtdnmhlfjafjkbaaGreatDoorChecked
import Derived.KernelRfl
set_option linter.all false
namespace Go.Proofs.YtdnmhlfjafjkbaaGreatDoor.Vm
open Go Go.Ev
set_option maxRecDepth 100000
def pures:List Nat:=[2,3,4,5,6,7,8,9,10,11,12,13,14,15,16,17,18,19,20,21,22,23,24,25,26,27,28,29,30,31,32,33,34,35,36,37,40,41,43,44,45,46,47,48,49,50,51,53,55,58,59,60,61,65,66,67,68,69,71,72,73,74,77,78,81,84,85,86,87,88,89,90,93,94,95,96,97,98,99,100,101,102,103,104,105,106,108,109,110,111,112,115,116,118,119,121,122,125,126,127,133,134,136,137,138,149,150,152,153,154,155,156,157,158,159,160,182,186,223]
def pure (f:FuncId):Bool:=pures.elem f
def table:List (Option IF):=[none,none,none,none,none,none,none,none,none,none,none,some ir11,none,none,none,some ir15,some ir16,none,some ir18,none,some ir20,none,some ir22,some ir23,some ir24,none,some ir26,none,some ir28,none,some ir30,none,some ir32,none,some ir34,none,some ir36,none,some ir38,none,some ir40,some ir41,some ir42,some ir43,none,some ir45,none,none,none,none,none,some ir51,some ir52,none,none,some ir55,some ir56,none,some ir58,some ir59,some ir60,some ir61,some ir62,none,none,some ir65,some ir66,some ir67,some ir68,some ir69,some ir70,some ir71,none,some ir73,some ir74,some ir75,some ir76,some ir77,none,some ir79,some ir80,some ir81,some ir82,some ir83,some ir84,none,none,none,none,some ir89,none,some ir91,some ir92,some ir93,some ir94,none,some ir96,none,none,none,none,none,some ir102,none,some ir104,some ir105,some ir106,some ir107,some ir108,some ir109,none,some ir111,some ir112,some ir113,some ir114,some ir115,some ir116,some ir117,some ir118,some ir119,none,some ir121,some ir122,some ir123,some ir124,none,none,some ir127,some ir128,some ir129,some ir130,some ir131,some ir132,none,some ir134,some ir135,none,some ir137,some ir138,some ir139,some ir140,some ir141,some ir142,some ir143,some ir144,some ir145,some ir146,some ir147,some ir148,some ir149,some ir150,none,none,none,none,none,none,none,none,none,some ir160,some ir161,some ir162,some ir163,some ir164,some ir165,some ir166,some ir167,some ir168,some ir169,some ir170,some ir171,some ir172,some ir173,some ir174,some ir175,some ir176,some ir177,some ir178,some ir179,some ir180,some ir181,some ir182,some ir183,some ir184,some ir185,none,none,none,some ir189,some ir190,some ir191,none,some ir193,some ir194,some ir195,some ir196,some ir197,none,some ir199,some ir200,some ir201]
def L:Lib:={fns:=fun f=>(table[f]?).join,pure:=pure,prim:=primSeq 192 170}
def G (g:Nat):List Nat:=kept [(1,[0,1,56,2,57,49,28,3,61,58,42,50,38,29,17,4,62,47,59,36,45,43,51,22,53,39,33,30,24,18,12,5,63,55,48,27,60,41,37,16,46,35,44,21,52,32,23,11,54,26,40,15,34,20,31,10,25,14,19,9,13,8,7,6])] g
def okKeep (l:List (Nat×List Nat)):Bool:=l.all fun x=>decide (x.1<glKey)||x.2==G (x.1-glKey)
theorem zjo {l:List (Nat×List Nat)} (h:okKeep l=true)(g:Nat)(hne:kept l (glKey+g)≠[]):kept l (glKey+g)=G g:=by
 unfold kept at hne⊢
 cases hf:l.find? (fun x=>x.1==glKey+g) with
 |none=>simp [hf] at hne
 |some x=>
  have hm:=List.mem_of_find?_eq_some hf
  have he:x.1=glKey+g:=by simpa using List.find?_some hf
  have:=(List.all_eq_true.1 h) x hm
  simp only [Bool.or_eq_true,decide_eq_true_eq,beq_iff_eq,he] at this
  rcases this with h1|h1
  ·omega
  ·rw [Nat.add_sub_cancel_left] at h1;exact h1
def OkAt (f:FuncId) (o:Option IF):Prop:=∀fn,o=some fn→∃keep:Nat→List Tmp,(∀g,keep (glKey+g)≠[]→keep (glKey+g)=G g)∧compF Tryz.prog pure keep f=some fn
theorem zn (f:FuncId):OkAt f none:=fun fn h=>by simp at h
theorem z9 {f:FuncId} {fn:IF} (l:List (Nat×List Nat))(h:compF Tryz.prog pure (kept l) f=some fn)(hk:okKeep l=true):OkAt f (some fn):=fun fn' h'=>⟨kept l,zjo hk,by rw [h,←h']⟩
theorem ok11:OkAt 11 (some ir11):=z9 [(0,[1,2,7,8,9,10,30,31,32]),(2,[1,2,7,8,9,10,47,48]),(1000004,[1000008]),(1000029,[18]),(2000001,[38,62])] (by kernel_rfl) (by kernel_rfl)
theorem ok15:OkAt 15 (some ir15):=z9 [] (by kernel_rfl) (by kernel_rfl)
theorem ok16:OkAt 16 (some ir16):=z9 [(2000001,[70,2000071])] (by kernel_rfl) (by kernel_rfl)
theorem ok18:OkAt 18 (some ir18):=z9 [(0,[6,8,29,30,31]),(2,[6,8,9,10,29,30,31,36,37,38]),(4,[8,13,60,61]),(2000001,[70])] (by kernel_rfl) (by kernel_rfl)
theorem ok20:OkAt 20 (some ir20):=z9 [(0,[0,6,8,9,3000000]),(2,[6,35,36,37,3000000]),(2000000,[1]),(1000016,[6]),(2000001,[79])] (by kernel_rfl) (by kernel_rfl)
theorem ok22:OkAt 22 (some ir22):=z9 [(0,[0,1,5])] (by kernel_rfl) (by kernel_rfl)
theorem ok23:OkAt 23 (some ir23):=z9 [(0,[0,1,5])] (by kernel_rfl) (by kernel_rfl)
theorem ok24:OkAt 24 (some ir24):=z9 [] (by kernel_rfl) (by kernel_rfl)
theorem ok26:OkAt 26 (some ir26):=z9 [(0,[0,4,6,8,29,30]),(2,[4,6,10,47,48,49]),(4,[4,6,10,12,47,48,49,57,58,59]),(3000018,[10]),(2000001,[79])] (by kernel_rfl) (by kernel_rfl)
theorem ok28:OkAt 28 (some ir28):=z9 [] (by kernel_rfl) (by kernel_rfl)
theorem ok30:OkAt 30 (some ir30):=z9 [] (by kernel_rfl) (by kernel_rfl)
theorem ok32:OkAt 32 (some ir32):=z9 [(1000006,[10]),(2000001,[70])] (by kernel_rfl) (by kernel_rfl)
theorem ok34:OkAt 34 (some ir34):=z9 [(1,[13,51,52,53]),(1000006,[500005])] (by kernel_rfl) (by kernel_rfl)
theorem ok36:OkAt 36 (some ir36):=z9 [(1,[0,2,8,31,32,33]),(4,[2,12,13,61,62,63]),(2000001,[70])] (by kernel_rfl) (by kernel_rfl)
theorem ok38:OkAt 38 (some ir38):=z9 [(0,[2,6,7,23,24,25,3000000]),(2000000,[1]),(2000003,[1]),(2000001,[2000055])] (by kernel_rfl) (by kernel_rfl)
theorem ok40:OkAt 40 (some ir40):=z9 [(0,[0,3])] (by kernel_rfl) (by kernel_rfl)
theorem ok41:OkAt 41 (some ir41):=z9 [] (by kernel_rfl) (by kernel_rfl)
theorem ok42:OkAt 42 (some ir42):=z9 [(0,[0,1,9,10,11])] (by kernel_rfl) (by kernel_rfl)
theorem ok43:OkAt 43 (some ir43):=z9 [(1000004,[6]),(2000001,[70])] (by kernel_rfl) (by kernel_rfl)
theorem ok45:OkAt 45 (some ir45):=z9 [] (by kernel_rfl) (by kernel_rfl)
theorem ok51:OkAt 51 (some ir51):=z9 [(0,[3,6,7,8,3000000]),(2000000,[1])] (by kernel_rfl) (by kernel_rfl)
theorem ok52:OkAt 52 (some ir52):=z9 [] (by kernel_rfl) (by kernel_rfl)
theorem ok55:OkAt 55 (some ir55):=z9 [] (by kernel_rfl) (by kernel_rfl)
theorem ok56:OkAt 56 (some ir56):=z9 [] (by kernel_rfl) (by kernel_rfl)
theorem ok58:OkAt 58 (some ir58):=z9 [] (by kernel_rfl) (by kernel_rfl)
theorem ok59:OkAt 59 (some ir59):=z9 [(0,[0,1,7,8])] (by kernel_rfl) (by kernel_rfl)
theorem ok60:OkAt 60 (some ir60):=z9 [] (by kernel_rfl) (by kernel_rfl)
theorem ok61:OkAt 61 (some ir61):=z9 [(0,[0,1,2,6,9,10,11])] (by kernel_rfl) (by kernel_rfl)
theorem ok62:OkAt 62 (some ir62):=z9 [(2000000,[1])] (by kernel_rfl) (by kernel_rfl)
theorem ok65:OkAt 65 (some ir65):=z9 [] (by kernel_rfl) (by kernel_rfl)
theorem ok66:OkAt 66 (some ir66):=z9 [] (by kernel_rfl) (by kernel_rfl)
theorem ok67:OkAt 67 (some ir67):=z9 [] (by kernel_rfl) (by kernel_rfl)
theorem ok68:OkAt 68 (some ir68):=z9 [] (by kernel_rfl) (by kernel_rfl)
theorem ok69:OkAt 69 (some ir69):=z9 [] (by kernel_rfl) (by kernel_rfl)
theorem ok70:OkAt 70 (some ir70):=z9 [(1,[0,6,7,27,28,29,3000000]),(3,[0,6,7,9,27,28,29,36,37,38]),(2000000,[1]),(2000003,[1]),(2000001,[2000122])] (by kernel_rfl) (by kernel_rfl)
theorem ok71:OkAt 71 (some ir71):=z9 [(0,[0,8,9,10])] (by kernel_rfl) (by kernel_rfl)
theorem ok73:OkAt 73 (some ir73):=z9 [] (by kernel_rfl) (by kernel_rfl)
theorem ok74:OkAt 74 (some ir74):=z9 [(0,[3,4])] (by kernel_rfl) (by kernel_rfl)
theorem ok75:OkAt 75 (some ir75):=z9 [] (by kernel_rfl) (by kernel_rfl)
theorem ok76:OkAt 76 (some ir76):=z9 [] (by kernel_rfl) (by kernel_rfl)
theorem ok77:OkAt 77 (some ir77):=z9 [] (by kernel_rfl) (by kernel_rfl)
theorem ok79:OkAt 79 (some ir79):=z9 [(2000001,[70,2000071])] (by kernel_rfl) (by kernel_rfl)
theorem ok80:OkAt 80 (some ir80):=z9 [] (by kernel_rfl) (by kernel_rfl)
theorem ok81:OkAt 81 (some ir81):=z9 [] (by kernel_rfl) (by kernel_rfl)
theorem ok82:OkAt 82 (some ir82):=z9 [] (by kernel_rfl) (by kernel_rfl)
theorem ok83:OkAt 83 (some ir83):=z9 [] (by kernel_rfl) (by kernel_rfl)
theorem ok84:OkAt 84 (some ir84):=z9 [(0,[3,8,9,10])] (by kernel_rfl) (by kernel_rfl)
theorem ok89:OkAt 89 (some ir89):=z9 [(3000003,[8,9]),(3000005,[8,9]),(3000006,[999999]),(1000004,[11]),(2000001,[70])] (by kernel_rfl) (by kernel_rfl)
theorem ok91:OkAt 91 (some ir91):=z9 [] (by kernel_rfl) (by kernel_rfl)
theorem ok92:OkAt 92 (some ir92):=z9 [] (by kernel_rfl) (by kernel_rfl)
theorem ok93:OkAt 93 (some ir93):=z9 [] (by kernel_rfl) (by kernel_rfl)
theorem ok94:OkAt 94 (some ir94):=z9 [(0,[3,4])] (by kernel_rfl) (by kernel_rfl)
theorem ok96:OkAt 96 (some ir96):=z9 [(1,[3,6,44,45,46]),(3,[3,6,60,61]),(5,[3,6,10,60,61,66,67]),(7,[3,6,11,90,91,92]),(9,[3,6,111,112,113]),(11,[3,17,131,132,133]),(13,[3,17,18,19,131,132,133])] (by kernel_rfl) (by kernel_rfl)
theorem ok102:OkAt 102 (some ir102):=z9 [(0,[1,2,7,10,11,12])] (by kernel_rfl) (by kernel_rfl)
theorem ok104:OkAt 104 (some ir104):=z9 [(0,[0,1,4])] (by kernel_rfl) (by kernel_rfl)
theorem ok105:OkAt 105 (some ir105):=z9 [(0,[2,3,6,7,8])] (by kernel_rfl) (by kernel_rfl)
theorem ok106:OkAt 106 (some ir106):=z9 [] (by kernel_rfl) (by kernel_rfl)
theorem ok107:OkAt 107 (some ir107):=z9 [] (by kernel_rfl) (by kernel_rfl)
theorem ok108:OkAt 108 (some ir108):=z9 [] (by kernel_rfl) (by kernel_rfl)
theorem ok109:OkAt 109 (some ir109):=z9 [] (by kernel_rfl) (by kernel_rfl)
theorem ok111:OkAt 111 (some ir111):=z9 [(0,[0,3,9,10,11]),(2,[6,25,26,27]),(2000000,[1]),(2000001,[139])] (by kernel_rfl) (by kernel_rfl)
theorem ok112:OkAt 112 (some ir112):=z9 [] (by kernel_rfl) (by kernel_rfl)
theorem ok113:OkAt 113 (some ir113):=z9 [] (by kernel_rfl) (by kernel_rfl)
theorem ok114:OkAt 114 (some ir114):=z9 [(0,[0,1,2,3,4,10,11]),(2000002,[1])] (by kernel_rfl) (by kernel_rfl)
theorem ok115:OkAt 115 (some ir115):=z9 [] (by kernel_rfl) (by kernel_rfl)
theorem ok116:OkAt 116 (some ir116):=z9 [(0,[0,1,7,8])] (by kernel_rfl) (by kernel_rfl)
theorem ok117:OkAt 117 (some ir117):=z9 [(0,[0,1,7,8])] (by kernel_rfl) (by kernel_rfl)
theorem ok118:OkAt 118 (some ir118):=z9 [] (by kernel_rfl) (by kernel_rfl)
theorem ok119:OkAt 119 (some ir119):=z9 [] (by kernel_rfl) (by kernel_rfl)
theorem ok121:OkAt 121 (some ir121):=z9 [] (by kernel_rfl) (by kernel_rfl)
theorem ok122:OkAt 122 (some ir122):=z9 [] (by kernel_rfl) (by kernel_rfl)
theorem ok123:OkAt 123 (some ir123):=z9 [(0,[0,1,7,8])] (by kernel_rfl) (by kernel_rfl)
theorem ok124:OkAt 124 (some ir124):=z9 [] (by kernel_rfl) (by kernel_rfl)
theorem ok127:OkAt 127 (some ir127):=z9 [] (by kernel_rfl) (by kernel_rfl)
theorem ok128:OkAt 128 (some ir128):=z9 [(0,[0,1,7,8])] (by kernel_rfl) (by kernel_rfl)
theorem ok129:OkAt 129 (some ir129):=z9 [(0,[0,1,2,3,4,10,11]),(2000002,[1])] (by kernel_rfl) (by kernel_rfl)
theorem ok130:OkAt 130 (some ir130):=z9 [] (by kernel_rfl) (by kernel_rfl)
theorem ok131:OkAt 131 (some ir131):=z9 [] (by kernel_rfl) (by kernel_rfl)
theorem ok132:OkAt 132 (some ir132):=z9 [(0,[0,1,2,6,7,8]),(2,[0,1,2,6]),(4,[0,1,2,6,7,8])] (by kernel_rfl) (by kernel_rfl)
theorem ok134:OkAt 134 (some ir134):=z9 [] (by kernel_rfl) (by kernel_rfl)
theorem ok135:OkAt 135 (some ir135):=z9 [(0,[0,1,5]),(2000002,[1])] (by kernel_rfl) (by kernel_rfl)
theorem ok137:OkAt 137 (some ir137):=z9 [(4000001,[0,1,56,2,57,49,28,3,61,58,42,50,38,29,17,4,62,47,59,36,45,43,51,22,53,39,33,30,24,18,12,5,63,55,48,27,60,41,37,16,46,35,44,21,52,32,23,11,54,26,40,15,34,20,31,10,25,14,19,9,13,8,7,6])] (by kernel_rfl) (by kernel_rfl)
theorem ok138:OkAt 138 (some ir138):=z9 [] (by kernel_rfl) (by kernel_rfl)
theorem ok139:OkAt 139 (some ir139):=z9 [(2000000,[1])] (by kernel_rfl) (by kernel_rfl)
theorem ok140:OkAt 140 (some ir140):=z9 [(0,[0,1,2,3,4,10,11])] (by kernel_rfl) (by kernel_rfl)
theorem ok141:OkAt 141 (some ir141):=z9 [(0,[0,1,2,3,8]),(2,[0,1,2,3,8,9]),(2000002,[1])] (by kernel_rfl) (by kernel_rfl)
theorem ok142:OkAt 142 (some ir142):=z9 [(0,[0,3,8,9,10,11]),(2,[0,3,8,9,12]),(2000002,[1])] (by kernel_rfl) (by kernel_rfl)
theorem ok143:OkAt 143 (some ir143):=z9 [(0,[0,1,8,9,10,11])] (by kernel_rfl) (by kernel_rfl)
theorem ok144:OkAt 144 (some ir144):=z9 [(2000002,[1])] (by kernel_rfl) (by kernel_rfl)
theorem ok145:OkAt 145 (some ir145):=z9 [(0,[0,8,9])] (by kernel_rfl) (by kernel_rfl)
theorem ok146:OkAt 146 (some ir146):=z9 [(0,[0,1,2,3,9,10]),(2,[0,1,2,3,9,10]),(4,[0,1,2,3,9,10,11]),(6,[0,1,2,3,9,10,12]),(2000002,[1])] (by kernel_rfl) (by kernel_rfl)
theorem ok147:OkAt 147 (some ir147):=z9 [(0,[0,1,4,11,12]),(2,[0,1,4,11,12]),(4,[0,1,4,11,12]),(2000002,[1])] (by kernel_rfl) (by kernel_rfl)
theorem ok148:OkAt 148 (some ir148):=z9 [(0,[0,1,4,12,13]),(2,[0,1,4,12,13]),(4,[0,1,4,12,13]),(6,[0,1,4,12,13]),(8,[0,1,4,12,13]),(2000002,[1])] (by kernel_rfl) (by kernel_rfl)
theorem ok149:OkAt 149 (some ir149):=z9 [] (by kernel_rfl) (by kernel_rfl)
theorem ok150:OkAt 150 (some ir150):=z9 [] (by kernel_rfl) (by kernel_rfl)
theorem ok160:OkAt 160 (some ir160):=z9 [(0,[0,3,7,8])] (by kernel_rfl) (by kernel_rfl)
theorem ok161:OkAt 161 (some ir161):=z9 [(0,[0,1,2,3,8]),(2,[0,1,2,3,8,9]),(2000002,[1])] (by kernel_rfl) (by kernel_rfl)
theorem ok162:OkAt 162 (some ir162):=z9 [(0,[0,3,8,9,10,11]),(2,[0,3,8,9,12]),(2000002,[1])] (by kernel_rfl) (by kernel_rfl)
theorem ok163:OkAt 163 (some ir163):=z9 [(0,[0,1,8,9,10,11])] (by kernel_rfl) (by kernel_rfl)
theorem ok164:OkAt 164 (some ir164):=z9 [(2000002,[1])] (by kernel_rfl) (by kernel_rfl)
theorem ok165:OkAt 165 (some ir165):=z9 [(0,[0,8,9])] (by kernel_rfl) (by kernel_rfl)
theorem ok166:OkAt 166 (some ir166):=z9 [(0,[0,1,2,3,9,10]),(2,[0,1,2,3,9,10]),(4,[0,1,2,3,9,10,11]),(6,[0,1,2,3,9,10,12]),(2000002,[1])] (by kernel_rfl) (by kernel_rfl)
theorem ok167:OkAt 167 (some ir167):=z9 [(0,[0,1,4,11,12]),(2,[0,1,4,11,12]),(4,[0,1,4,11,12]),(2000002,[1])] (by kernel_rfl) (by kernel_rfl)
theorem ok168:OkAt 168 (some ir168):=z9 [(0,[0,1,4,12,13]),(2,[0,1,4,12,13]),(4,[0,1,4,12,13]),(6,[0,1,4,12,13]),(8,[0,1,4,12,13]),(2000002,[1])] (by kernel_rfl) (by kernel_rfl)
theorem ok169:OkAt 169 (some ir169):=z9 [] (by kernel_rfl) (by kernel_rfl)
theorem ok170:OkAt 170 (some ir170):=z9 [(0,[0,5,6,7])] (by kernel_rfl) (by kernel_rfl)
theorem ok171:OkAt 171 (some ir171):=z9 [(0,[0,1,2,3,8]),(2,[0,1,2,3,8,9])] (by kernel_rfl) (by kernel_rfl)
theorem ok172:OkAt 172 (some ir172):=z9 [(0,[0,1,4,10,11]),(2,[0,10,13]),(4,[0,2,4,14,15]),(6,[0,14,17]),(8,[0,1,2,3,4,18,19,20,21,22])] (by kernel_rfl) (by kernel_rfl)
theorem ok173:OkAt 173 (some ir173):=z9 [(0,[0,1,2,3,8]),(2,[0,1,2,3,8,9])] (by kernel_rfl) (by kernel_rfl)
theorem ok174:OkAt 174 (some ir174):=z9 [(0,[0,3,8,9,10,11]),(2,[0,3,8,9,12])] (by kernel_rfl) (by kernel_rfl)
theorem ok175:OkAt 175 (some ir175):=z9 [(0,[0,1,8,9,10,11])] (by kernel_rfl) (by kernel_rfl)
theorem ok176:OkAt 176 (some ir176):=z9 [] (by kernel_rfl) (by kernel_rfl)
theorem ok177:OkAt 177 (some ir177):=z9 [(0,[0,8,9])] (by kernel_rfl) (by kernel_rfl)
theorem ok178:OkAt 178 (some ir178):=z9 [(0,[0,1,2,3,9,10]),(2,[0,1,2,3,9,10]),(4,[0,1,2,3,9,10,11]),(6,[0,1,2,3,9,10,12])] (by kernel_rfl) (by kernel_rfl)
theorem ok179:OkAt 179 (some ir179):=z9 [(0,[0,1,4,11,12]),(2,[0,1,4,11,12]),(4,[0,1,4,11,12])] (by kernel_rfl) (by kernel_rfl)
theorem ok180:OkAt 180 (some ir180):=z9 [(0,[0,1,4,12,13]),(2,[0,1,4,12,13]),(4,[0,1,4,12,13]),(6,[0,1,4,12,13]),(8,[0,1,4,12,13])] (by kernel_rfl) (by kernel_rfl)
theorem ok181:OkAt 181 (some ir181):=z9 [(0,[0,2,3,4,10]),(2000002,[1])] (by kernel_rfl) (by kernel_rfl)
theorem ok182:OkAt 182 (some ir182):=z9 [] (by kernel_rfl) (by kernel_rfl)
theorem ok183:OkAt 183 (some ir183):=z9 [] (by kernel_rfl) (by kernel_rfl)
theorem ok184:OkAt 184 (some ir184):=z9 [(2000002,[1])] (by kernel_rfl) (by kernel_rfl)
theorem ok185:OkAt 185 (some ir185):=z9 [(2000002,[1])] (by kernel_rfl) (by kernel_rfl)
theorem ok189:OkAt 189 (some ir189):=z9 [(0,[0,2,3,4,10]),(2000002,[1])] (by kernel_rfl) (by kernel_rfl)
theorem ok190:OkAt 190 (some ir190):=z9 [(2000002,[1])] (by kernel_rfl) (by kernel_rfl)
theorem ok191:OkAt 191 (some ir191):=z9 [(2000002,[1])] (by kernel_rfl) (by kernel_rfl)
theorem ok193:OkAt 193 (some ir193):=z9 [(0,[0,2,4,10,11])] (by kernel_rfl) (by kernel_rfl)
theorem ok194:OkAt 194 (some ir194):=z9 [(0,[0,2,3,4,10])] (by kernel_rfl) (by kernel_rfl)
theorem ok195:OkAt 195 (some ir195):=z9 [] (by kernel_rfl) (by kernel_rfl)
theorem ok196:OkAt 196 (some ir196):=z9 [] (by kernel_rfl) (by kernel_rfl)
theorem ok197:OkAt 197 (some ir197):=z9 [(2000002,[1])] (by kernel_rfl) (by kernel_rfl)
theorem ok199:OkAt 199 (some ir199):=z9 [(2000002,[1])] (by kernel_rfl) (by kernel_rfl)
theorem ok200:OkAt 200 (some ir200):=z9 [(0,[0,1,2,3,10])] (by kernel_rfl) (by kernel_rfl)
theorem ok201:OkAt 201 (some ir201):=z9 [] (by kernel_rfl) (by kernel_rfl)
theorem pus:pure 11=true∧pure 15=true∧pure 16=true∧pure 18=true∧pure 20=true∧pure 22=true∧pure 23=true∧pure 24=true∧pure 26=true∧pure 28=true∧pure 30=true∧pure 32=true∧pure 34=true∧pure 36=true∧pure 38=false∧pure 40=true∧pure 41=true∧pure 42=false∧pure 43=true∧pure 45=true∧pure 51=true∧pure 52=false∧pure 55=true∧pure 56=false∧pure 58=true∧pure 59=true∧pure 60=true∧pure 61=true∧pure 62=false∧pure 65=true∧pure 66=true∧pure 67=true∧pure 68=true∧pure 69=true∧pure 70=false∧pure 71=true∧pure 73=true∧pure 74=true∧pure 75=false∧pure 76=false∧pure 77=true∧pure 79=false∧pure 80=false∧pure 81=true∧pure 82=false∧pure 83=false∧pure 84=true∧pure 89=true∧pure 91=false∧pure 92=false∧pure 93=true∧pure 94=true∧pure 96=true∧pure 102=true∧pure 104=true∧pure 105=true∧pure 106=true∧pure 107=false∧pure 108=true∧pure 109=true∧pure 111=true∧pure 112=true∧pure 113=false∧pure 114=false∧pure 115=true∧pure 116=true∧pure 117=false∧pure 118=true∧pure 119=true∧pure 121=true∧pure 122=true∧pure 123=false∧pure 124=false∧pure 127=true∧pure 128=false∧pure 129=false∧pure 130=false∧pure 131=false∧pure 132=false∧pure 134=true∧pure 135=false∧pure 137=true∧pure 138=true∧pure 139=false∧pure 140=false∧pure 141=false∧pure 142=false∧pure 143=false∧pure 144=false∧pure 145=false∧pure 146=false∧pure 147=false∧pure 148=false∧pure 149=true∧pure 150=true∧pure 160=true∧pure 161=false∧pure 162=false∧pure 163=false∧pure 164=false∧pure 165=false∧pure 166=false∧pure 167=false∧pure 168=false∧pure 169=false∧pure 170=false∧pure 171=false∧pure 172=false∧pure 173=false∧pure 174=false∧pure 175=false∧pure 176=false∧pure 177=false∧pure 178=false∧pure 179=false∧pure 180=false∧pure 181=false∧pure 182=true∧pure 183=false∧pure 184=false∧pure 185=false∧pure 189=false∧pure 190=false∧pure 191=false∧pure 193=false∧pure 194=false∧pure 195=false∧pure 196=false∧pure 197=false∧pure 199=false∧pure 200=false∧pure 201=false:=⟨rfl,rfl,rfl,rfl,rfl,rfl,rfl,rfl,rfl,rfl,rfl,rfl,rfl,rfl,rfl,rfl,rfl,rfl,rfl,rfl,rfl,rfl,rfl,rfl,rfl,rfl,rfl,rfl,rfl,rfl,rfl,rfl,rfl,rfl,rfl,rfl,rfl,rfl,rfl,rfl,rfl,rfl,rfl,rfl,rfl,rfl,rfl,rfl,rfl,rfl,rfl,rfl,rfl,rfl,rfl,rfl,rfl,rfl,rfl,rfl,rfl,rfl,rfl,rfl,rfl,rfl,rfl,rfl,rfl,rfl,rfl,rfl,rfl,rfl,rfl,rfl,rfl,rfl,rfl,rfl,rfl,rfl,rfl,rfl,rfl,rfl,rfl,rfl,rfl,rfl,rfl,rfl,rfl,rfl,rfl,rfl,rfl,rfl,rfl,rfl,rfl,rfl,rfl,rfl,rfl,rfl,rfl,rfl,rfl,rfl,rfl,rfl,rfl,rfl,rfl,rfl,rfl,rfl,rfl,rfl,rfl,rfl,rfl,rfl,rfl,rfl,rfl,rfl,rfl,rfl,rfl,rfl⟩
theorem zck:L.pure=pure:=rfl
def AllOk:Nat→List (Option IF)→Prop
 |_,[]=>True
 |i,o::r=>OkAt i o∧AllOk (i+1) r
theorem AllOk.get: ∀(i:Nat) (l:List (Option IF)),AllOk i l→∀k,OkAt (i+k) (l[k]?).join
 |i,[],_,k=>fun fn h=>by simp at h
 |i,o::r,h,0=>by simpa using h.1
 |i,o::r,h,k+1=>by
  have:=AllOk.get (i+1) r h.2 k
  rw [show i+(k+1)=i+1+k by omega]
  simpa using this
theorem allOk:AllOk 0 table:=⟨zn 0,zn 1,zn 2,zn 3,zn 4,zn 5,zn 6,zn 7,zn 8,zn 9,zn 10,ok11,zn 12,zn 13,zn 14,ok15,ok16,zn 17,ok18,zn 19,ok20,zn 21,ok22,ok23,ok24,zn 25,ok26,zn 27,ok28,zn 29,ok30,zn 31,ok32,zn 33,ok34,zn 35,ok36,zn 37,ok38,zn 39,ok40,ok41,ok42,ok43,zn 44,ok45,zn 46,zn 47,zn 48,zn 49,zn 50,ok51,ok52,zn 53,zn 54,ok55,ok56,zn 57,ok58,ok59,ok60,ok61,ok62,zn 63,zn 64,ok65,ok66,ok67,ok68,ok69,ok70,ok71,zn 72,ok73,ok74,ok75,ok76,ok77,zn 78,ok79,ok80,ok81,ok82,ok83,ok84,zn 85,zn 86,zn 87,zn 88,ok89,zn 90,ok91,ok92,ok93,ok94,zn 95,ok96,zn 97,zn 98,zn 99,zn 100,zn 101,ok102,zn 103,ok104,ok105,ok106,ok107,ok108,ok109,zn 110,ok111,ok112,ok113,ok114,ok115,ok116,ok117,ok118,ok119,zn 120,ok121,ok122,ok123,ok124,zn 125,zn 126,ok127,ok128,ok129,ok130,ok131,ok132,zn 133,ok134,ok135,zn 136,ok137,ok138,ok139,ok140,ok141,ok142,ok143,ok144,ok145,ok146,ok147,ok148,ok149,ok150,zn 151,zn 152,zn 153,zn 154,zn 155,zn 156,zn 157,zn 158,zn 159,ok160,ok161,ok162,ok163,ok164,ok165,ok166,ok167,ok168,ok169,ok170,ok171,ok172,ok173,ok174,ok175,ok176,ok177,ok178,ok179,ok180,ok181,ok182,ok183,ok184,ok185,zn 186,zn 187,zn 188,ok189,ok190,ok191,zn 192,ok193,ok194,ok195,ok196,ok197,zn 198,ok199,ok200,ok201,trivial⟩
theorem fnsOk:FnsOk Tryz.prog G L:=fun f fn h=>by
 have:=AllOk.get 0 table allOk f
 rw [Nat.zero_add] at this
 exact this fn h
theorem mix:Tryz.prog.follows .mixedOrders=true:=by kernel_rfl
end Go.Proofs.YtdnmhlfjafjkbaaGreatDoor.Vm
