/- What is proved: each function of the table is the function of that number in the given program. No condition. -/
import Derived.Test.YtdnjagnechibhaaGreatDoorIr4
import Derived.Test.YtdnjagnechibhaaGreatDoorChecked
import Derived.KernelRfl
set_option linter.all false
namespace Go.Proofs.YtdnjagnechibhaaGreatDoor.Vm
open Go Go.Ev
set_option maxRecDepth 100000
def pures:List Nat:=[2,3,4,5,6,7,8,9,10,11,12,13,14,15,16,17,18,19,20,21,22,23,24,25,26,28,29,30,31,32,33,34,35,36,37,38,39,40,41,42,43,44,45,46,47,48,49,50,51,56,57,58,59,60,61,62,63,64,65,66,67,69,70,71,72,75,76,77,78,79,80,81,82,83,84,85,86,87,88,89,90,91,95,96,100,101,103,104,105,106,107,108,109,110,111,121,122,123,125,126,127,128,131,136,137,138,139,140,141,142,143,144,145,147,149,151,152,153,156,157,158,159,160,161,162,163,164,165,167,172,173,174,175,178,180,181,182,183,184,185,187,190,191,192,193,196,197,199,200,201,204,205,209,210,213,214,215,216,217,218,227,228,231,233,234,235,244,245,246,247,248,249,250,252,257,258,259,260,268,269,270,271,273,274,275,276,278,279,280,282,284,285,336,337,339,340,341,342,357]
def pure (f:FuncId):Bool:=pures.elem f
def table:List (Option IF):=[none,none,none,none,none,none,none,some ir7,none,none,none,none,some ir12,none,some ir14,some ir15,none,some ir17,none,none,none,some ir21,none,none,none,none,none,none,none,none,some ir30,none,none,none,none,none,some ir36,some ir37,some ir38,some ir39,some ir40,some ir41,some ir42,some ir43,some ir44,none,none,none,none,some ir49,none,none,none,none,none,none,some ir56,some ir57,some ir58,none,none,some ir61,some ir62,none,none,none,none,some ir67,some ir68,some ir69,some ir70,some ir71,none,none,none,some ir75,none,none,none,some ir79,some ir80,some ir81,none,none,none,none,none,none,none,none,none,some ir91,some ir92,some ir93,some ir94,some ir95,some ir96,some ir97,some ir98,some ir99,some ir100,some ir101,some ir102,some ir103,some ir104,some ir105,some ir106,none,none,none,some ir110,none,some ir112,none,none,none,none,some ir117,some ir118,some ir119,some ir120,some ir121,some ir122,none,none,some ir125,some ir126,some ir127,some ir128,some ir129,some ir130,some ir131,none,none,none,none,none,none,some ir138,some ir139,some ir140,some ir141,none,none,none,none,some ir146,some ir147,some ir148,some ir149,some ir150,some ir151,some ir152,some ir153,some ir154,some ir155,some ir156,some ir157,none,none,none,none,some ir162,none,some ir164,some ir165,some ir166,some ir167,none,none,none,none,none,none,none,none,some ir176,some ir177,some ir178,some ir179,some ir180,some ir181,none,none,some ir184,some ir185,some ir186,some ir187,some ir188,some ir189,some ir190,some ir191,some ir192,some ir193,some ir194,none,none,none,none,some ir199,some ir200,some ir201,some ir202,some ir203,some ir204,some ir205,none,none,none,none,none,none,some ir212,some ir213,some ir214,some ir215,some ir216,some ir217,some ir218,some ir219,some ir220,some ir221,some ir222,some ir223,some ir224,some ir225,some ir226,some ir227,some ir228,some ir229,some ir230,none,some ir232,some ir233,some ir234,some ir235,none,none,none,none,none,none,none,none,none,none,some ir246,some ir247,some ir248,some ir249,some ir250,some ir251,some ir252,some ir253,some ir254,some ir255,some ir256,none,none,none,some ir260,none,none,none,none,none,none,none,none,some ir269,some ir270,some ir271,some ir272,some ir273,some ir274,some ir275,some ir276,some ir277,none,none,none,none,some ir282,some ir283,some ir284,none,some ir286,some ir287,some ir288,some ir289,some ir290,some ir291,some ir292,some ir293,none,some ir295,some ir296,some ir297,some ir298]
def L:Lib:={fns:=fun f=>(table[f]?).join,pure:=pure}
def G (g:Nat):List Nat:=kept [(1,[0,1,56,2,57,49,28,3,61,58,42,50,38,29,17,4,62,47,59,36,45,43,51,22,53,39,33,30,24,18,12,5,63,55,48,27,60,41,37,16,46,35,44,21,52,32,23,11,54,26,40,15,34,20,31,10,25,14,19,9,13,8,7,6])] g
def okKeep (l:List (Nat×List Nat)):Bool:=l.all fun x=>decide (x.1<glKey)||x.2==G (x.1-glKey)
theorem okKeep_ok {l:List (Nat×List Nat)} (h:okKeep l=true)(g:Nat)(hne:kept l (glKey+g)≠[]):kept l (glKey+g)=G g:=by
 unfold kept at hne⊢
 cases hf:l.find? (fun x=>x.1==glKey+g) with
 |none=>simp [hf] at hne
 |some x=>
  have hm:=List.mem_of_find?_eq_some hf
  have he:x.1=glKey+g:=by simpa using List.find?_some hf
  have:=(List.all_eq_true.1 h) x hm
  simp only [Bool.or_eq_true,decide_eq_true_eq,beq_iff_eq,he] at this
  rcases this with h1|h1
  ·omega
  ·rw [Nat.add_sub_cancel_left] at h1;exact h1
def OkAt (f:FuncId) (o:Option IF):Prop:=∀fn,o=some fn→∃keep:Nat→List Tmp,(∀g,keep (glKey+g)≠[]→keep (glKey+g)=G g)∧compF Tryz.prog pure keep f=some fn
theorem okNone (f:FuncId):OkAt f none:=fun fn h=>by simp at h
theorem okSome {f:FuncId} {fn:IF} (l:List (Nat×List Nat))(h:compF Tryz.prog pure (kept l) f=some fn)(hk:okKeep l=true):OkAt f (some fn):=fun fn' h'=>⟨kept l,okKeep_ok hk,by rw [h,←h']⟩
theorem ok7:OkAt 7 (some ir7):=okSome [(0,[7,8,9,38,39,40]),(2,[8,14,16,85,86,87,3000000]),(4,[8,14,16,19,147,148,149]),(6,[8,14,16,19,20,21,147,148,149,154,155,156]),(1700019,[1]),(1000022,[16])] (by kernel_rfl) (by kernel_rfl)
theorem ok12:OkAt 12 (some ir12):=okSome [] (by kernel_rfl) (by kernel_rfl)
theorem ok14:OkAt 14 (some ir14):=okSome [(0,[0,1,12,13])] (by kernel_rfl) (by kernel_rfl)
theorem ok15:OkAt 15 (some ir15):=okSome [] (by kernel_rfl) (by kernel_rfl)
theorem ok17:OkAt 17 (some ir17):=okSome [] (by kernel_rfl) (by kernel_rfl)
theorem ok21:OkAt 21 (some ir21):=okSome [] (by kernel_rfl) (by kernel_rfl)
theorem ok30:OkAt 30 (some ir30):=okSome [] (by kernel_rfl) (by kernel_rfl)
theorem ok36:OkAt 36 (some ir36):=okSome [] (by kernel_rfl) (by kernel_rfl)
theorem ok37:OkAt 37 (some ir37):=okSome [(1,[0,4,9,10,31,32,33,3000000]),(1700018,[1]),(2000001,[92,95])] (by kernel_rfl) (by kernel_rfl)
theorem ok38:OkAt 38 (some ir38):=okSome [] (by kernel_rfl) (by kernel_rfl)
theorem ok39:OkAt 39 (some ir39):=okSome [] (by kernel_rfl) (by kernel_rfl)
theorem ok40:OkAt 40 (some ir40):=okSome [(0,[0,4,6,8,29,30]),(2,[4,6,10,47,48,49]),(4,[4,6,10,12,47,48,49,57,58,59]),(3000018,[10]),(2000001,[97])] (by kernel_rfl) (by kernel_rfl)
theorem ok41:OkAt 41 (some ir41):=okSome [(2000001,[102,2000103])] (by kernel_rfl) (by kernel_rfl)
theorem ok42:OkAt 42 (some ir42):=okSome [(2000001,[102])] (by kernel_rfl) (by kernel_rfl)
theorem ok43:OkAt 43 (some ir43):=okSome [(1000006,[10]),(2000001,[102])] (by kernel_rfl) (by kernel_rfl)
theorem ok44:OkAt 44 (some ir44):=okSome [(1,[13,51,52,53]),(1000006,[500005])] (by kernel_rfl) (by kernel_rfl)
theorem ok49:OkAt 49 (some ir49):=okSome [(0,[0,5,19,20]),(2,[0,5,6,7,8,9,19,20,23,24,25])] (by kernel_rfl) (by kernel_rfl)
theorem ok56:OkAt 56 (some ir56):=okSome [] (by kernel_rfl) (by kernel_rfl)
theorem ok57:OkAt 57 (some ir57):=okSome [(0,[0,1,5])] (by kernel_rfl) (by kernel_rfl)
theorem ok58:OkAt 58 (some ir58):=okSome [(1,[0,1,9,25,26,27]),(2000000,[1])] (by kernel_rfl) (by kernel_rfl)
theorem ok61:OkAt 61 (some ir61):=okSome [(1,[1,20,21,22])] (by kernel_rfl) (by kernel_rfl)
theorem ok62:OkAt 62 (some ir62):=okSome [(0,[1,4,5,10,11])] (by kernel_rfl) (by kernel_rfl)
theorem ok67:OkAt 67 (some ir67):=okSome [] (by kernel_rfl) (by kernel_rfl)
theorem ok68:OkAt 68 (some ir68):=okSome [(0,[0,1,9,10,11])] (by kernel_rfl) (by kernel_rfl)
theorem ok69:OkAt 69 (some ir69):=okSome [(0,[0,1,7,8])] (by kernel_rfl) (by kernel_rfl)
theorem ok70:OkAt 70 (some ir70):=okSome [] (by kernel_rfl) (by kernel_rfl)
theorem ok71:OkAt 71 (some ir71):=okSome [] (by kernel_rfl) (by kernel_rfl)
theorem ok75:OkAt 75 (some ir75):=okSome [(1,[13,14,15])] (by kernel_rfl) (by kernel_rfl)
theorem ok79:OkAt 79 (some ir79):=okSome [] (by kernel_rfl) (by kernel_rfl)
theorem ok80:OkAt 80 (some ir80):=okSome [] (by kernel_rfl) (by kernel_rfl)
theorem ok81:OkAt 81 (some ir81):=okSome [] (by kernel_rfl) (by kernel_rfl)
theorem ok91:OkAt 91 (some ir91):=okSome [(0,[1,3,9,10])] (by kernel_rfl) (by kernel_rfl)
theorem ok92:OkAt 92 (some ir92):=okSome [(0,[7,8])] (by kernel_rfl) (by kernel_rfl)
theorem ok93:OkAt 93 (some ir93):=okSome [(0,[0,1,7,8])] (by kernel_rfl) (by kernel_rfl)
theorem ok94:OkAt 94 (some ir94):=okSome [] (by kernel_rfl) (by kernel_rfl)
theorem ok95:OkAt 95 (some ir95):=okSome [(0,[3,4,8,9,10])] (by kernel_rfl) (by kernel_rfl)
theorem ok96:OkAt 96 (some ir96):=okSome [] (by kernel_rfl) (by kernel_rfl)
theorem ok97:OkAt 97 (some ir97):=okSome [(2000001,[102,2000103])] (by kernel_rfl) (by kernel_rfl)
theorem ok98:OkAt 98 (some ir98):=okSome [] (by kernel_rfl) (by kernel_rfl)
theorem ok99:OkAt 99 (some ir99):=okSome [] (by kernel_rfl) (by kernel_rfl)
theorem ok100:OkAt 100 (some ir100):=okSome [] (by kernel_rfl) (by kernel_rfl)
theorem ok101:OkAt 101 (some ir101):=okSome [(0,[3,4])] (by kernel_rfl) (by kernel_rfl)
theorem ok102:OkAt 102 (some ir102):=okSome [(1,[0,6,7,27,28,29,3000000]),(3,[0,6,7,9,27,28,29,36,37,38]),(2000000,[1]),(2000003,[1]),(2000001,[2000153])] (by kernel_rfl) (by kernel_rfl)
theorem ok103:OkAt 103 (some ir103):=okSome [(0,[0,8,9,10])] (by kernel_rfl) (by kernel_rfl)
theorem ok104:OkAt 104 (some ir104):=okSome [(0,[1,2,7,10,11,12])] (by kernel_rfl) (by kernel_rfl)
theorem ok105:OkAt 105 (some ir105):=okSome [] (by kernel_rfl) (by kernel_rfl)
theorem ok106:OkAt 106 (some ir106):=okSome [(0,[0,1,4])] (by kernel_rfl) (by kernel_rfl)
theorem ok110:OkAt 110 (some ir110):=okSome [(1,[13,14,15])] (by kernel_rfl) (by kernel_rfl)
theorem ok112:OkAt 112 (some ir112):=okSome [] (by kernel_rfl) (by kernel_rfl)
theorem ok117:OkAt 117 (some ir117):=okSome [] (by kernel_rfl) (by kernel_rfl)
theorem ok118:OkAt 118 (some ir118):=okSome [(0,[0,1,2,3,8,9,10]),(2100001,[0,1,2,3,8,9,10]),(2000001,[92])] (by kernel_rfl) (by kernel_rfl)
theorem ok119:OkAt 119 (some ir119):=okSome [] (by kernel_rfl) (by kernel_rfl)
theorem ok120:OkAt 120 (some ir120):=okSome [] (by kernel_rfl) (by kernel_rfl)
theorem ok121:OkAt 121 (some ir121):=okSome [] (by kernel_rfl) (by kernel_rfl)
theorem ok122:OkAt 122 (some ir122):=okSome [(0,[0,3])] (by kernel_rfl) (by kernel_rfl)
theorem ok125:OkAt 125 (some ir125):=okSome [] (by kernel_rfl) (by kernel_rfl)
theorem ok126:OkAt 126 (some ir126):=okSome [] (by kernel_rfl) (by kernel_rfl)
theorem ok127:OkAt 127 (some ir127):=okSome [] (by kernel_rfl) (by kernel_rfl)
theorem ok128:OkAt 128 (some ir128):=okSome [] (by kernel_rfl) (by kernel_rfl)
theorem ok129:OkAt 129 (some ir129):=okSome [] (by kernel_rfl) (by kernel_rfl)
theorem ok130:OkAt 130 (some ir130):=okSome [] (by kernel_rfl) (by kernel_rfl)
theorem ok131:OkAt 131 (some ir131):=okSome [] (by kernel_rfl) (by kernel_rfl)
theorem ok138:OkAt 138 (some ir138):=okSome [(0,[1,3,4,7,8,9])] (by kernel_rfl) (by kernel_rfl)
theorem ok139:OkAt 139 (some ir139):=okSome [] (by kernel_rfl) (by kernel_rfl)
theorem ok140:OkAt 140 (some ir140):=okSome [] (by kernel_rfl) (by kernel_rfl)
theorem ok141:OkAt 141 (some ir141):=okSome [] (by kernel_rfl) (by kernel_rfl)
theorem ok146:OkAt 146 (some ir146):=okSome [] (by kernel_rfl) (by kernel_rfl)
theorem ok147:OkAt 147 (some ir147):=okSome [] (by kernel_rfl) (by kernel_rfl)
theorem ok148:OkAt 148 (some ir148):=okSome [] (by kernel_rfl) (by kernel_rfl)
theorem ok149:OkAt 149 (some ir149):=okSome [] (by kernel_rfl) (by kernel_rfl)
theorem ok150:OkAt 150 (some ir150):=okSome [(0,[0,1,2,6,7,8]),(2,[0,1,2,6]),(4,[0,1,2,6,7,8])] (by kernel_rfl) (by kernel_rfl)
theorem ok151:OkAt 151 (some ir151):=okSome [(0,[2,3,6,7,8])] (by kernel_rfl) (by kernel_rfl)
theorem ok152:OkAt 152 (some ir152):=okSome [] (by kernel_rfl) (by kernel_rfl)
theorem ok153:OkAt 153 (some ir153):=okSome [] (by kernel_rfl) (by kernel_rfl)
theorem ok154:OkAt 154 (some ir154):=okSome [(0,[0,1,7,8])] (by kernel_rfl) (by kernel_rfl)
theorem ok155:OkAt 155 (some ir155):=okSome [] (by kernel_rfl) (by kernel_rfl)
theorem ok156:OkAt 156 (some ir156):=okSome [] (by kernel_rfl) (by kernel_rfl)
theorem ok157:OkAt 157 (some ir157):=okSome [(1,[3,6,44,45,46]),(3,[3,6,60,61]),(5,[3,6,10,60,61,66,67]),(7,[3,6,11,90,91,92]),(9,[3,6,111,112,113]),(11,[3,17,131,132,133]),(13,[3,17,18,19,131,132,133])] (by kernel_rfl) (by kernel_rfl)
theorem ok162:OkAt 162 (some ir162):=okSome [(0,[0,3,7,8])] (by kernel_rfl) (by kernel_rfl)
theorem ok164:OkAt 164 (some ir164):=okSome [(4000001,[0,1,56,2,57,49,28,3,61,58,42,50,38,29,17,4,62,47,59,36,45,43,51,22,53,39,33,30,24,18,12,5,63,55,48,27,60,41,37,16,46,35,44,21,52,32,23,11,54,26,40,15,34,20,31,10,25,14,19,9,13,8,7,6])] (by kernel_rfl) (by kernel_rfl)
theorem ok165:OkAt 165 (some ir165):=okSome [] (by kernel_rfl) (by kernel_rfl)
theorem ok166:OkAt 166 (some ir166):=okSome [(0,[0,1,7,8])] (by kernel_rfl) (by kernel_rfl)
theorem ok167:OkAt 167 (some ir167):=okSome [] (by kernel_rfl) (by kernel_rfl)
theorem ok176:OkAt 176 (some ir176):=okSome [] (by kernel_rfl) (by kernel_rfl)
theorem ok177:OkAt 177 (some ir177):=okSome [] (by kernel_rfl) (by kernel_rfl)
theorem ok178:OkAt 178 (some ir178):=okSome [] (by kernel_rfl) (by kernel_rfl)
theorem ok179:OkAt 179 (some ir179):=okSome [(1,[0,1,5,6,8,9,45,46,47])] (by kernel_rfl) (by kernel_rfl)
theorem ok180:OkAt 180 (some ir180):=okSome [] (by kernel_rfl) (by kernel_rfl)
theorem ok181:OkAt 181 (some ir181):=okSome [] (by kernel_rfl) (by kernel_rfl)
theorem ok184:OkAt 184 (some ir184):=okSome [] (by kernel_rfl) (by kernel_rfl)
theorem ok185:OkAt 185 (some ir185):=okSome [] (by kernel_rfl) (by kernel_rfl)
theorem ok186:OkAt 186 (some ir186):=okSome [(0,[0,1,2,3,4,10,11]),(2000002,[1])] (by kernel_rfl) (by kernel_rfl)
theorem ok187:OkAt 187 (some ir187):=okSome [] (by kernel_rfl) (by kernel_rfl)
theorem ok188:OkAt 188 (some ir188):=okSome [(0,[0,1,2,3,8]),(2,[0,1,2,3,8,9])] (by kernel_rfl) (by kernel_rfl)
theorem ok189:OkAt 189 (some ir189):=okSome [(0,[0,1,4,10,11]),(2,[0,10,13]),(4,[0,2,4,14,15]),(6,[0,14,17]),(8,[0,1,2,3,4,18,19,20,21,22])] (by kernel_rfl) (by kernel_rfl)
theorem ok190:OkAt 190 (some ir190):=okSome [(0,[0,3,7,8])] (by kernel_rfl) (by kernel_rfl)
theorem ok191:OkAt 191 (some ir191):=okSome [] (by kernel_rfl) (by kernel_rfl)
theorem ok192:OkAt 192 (some ir192):=okSome [(0,[0,3,9,10,11]),(2,[6,25,26,27]),(2000000,[1]),(2000001,[230])] (by kernel_rfl) (by kernel_rfl)
theorem ok193:OkAt 193 (some ir193):=okSome [] (by kernel_rfl) (by kernel_rfl)
theorem ok194:OkAt 194 (some ir194):=okSome [(0,[0,1,5]),(2000002,[1])] (by kernel_rfl) (by kernel_rfl)
theorem ok199:OkAt 199 (some ir199):=okSome [(0,[0,1])] (by kernel_rfl) (by kernel_rfl)
theorem ok200:OkAt 200 (some ir200):=okSome [(0,[0,1])] (by kernel_rfl) (by kernel_rfl)
theorem ok201:OkAt 201 (some ir201):=okSome [(0,[0,2,4])] (by kernel_rfl) (by kernel_rfl)
theorem ok202:OkAt 202 (some ir202):=okSome [(0,[0,1])] (by kernel_rfl) (by kernel_rfl)
theorem ok203:OkAt 203 (some ir203):=okSome [(0,[0,1])] (by kernel_rfl) (by kernel_rfl)
theorem ok204:OkAt 204 (some ir204):=okSome [(0,[0,1])] (by kernel_rfl) (by kernel_rfl)
theorem ok205:OkAt 205 (some ir205):=okSome [(0,[0,1])] (by kernel_rfl) (by kernel_rfl)
theorem ok212:OkAt 212 (some ir212):=okSome [] (by kernel_rfl) (by kernel_rfl)
theorem ok213:OkAt 213 (some ir213):=okSome [] (by kernel_rfl) (by kernel_rfl)
theorem ok214:OkAt 214 (some ir214):=okSome [] (by kernel_rfl) (by kernel_rfl)
theorem ok215:OkAt 215 (some ir215):=okSome [(0,[0,3])] (by kernel_rfl) (by kernel_rfl)
theorem ok216:OkAt 216 (some ir216):=okSome [] (by kernel_rfl) (by kernel_rfl)
theorem ok217:OkAt 217 (some ir217):=okSome [] (by kernel_rfl) (by kernel_rfl)
theorem ok218:OkAt 218 (some ir218):=okSome [(0,[0,3,11,12]),(1000007,[3])] (by kernel_rfl) (by kernel_rfl)
theorem ok219:OkAt 219 (some ir219):=okSome [(0,[0,1,2,3,8]),(2,[0,1,2,3,8,9]),(2000002,[1])] (by kernel_rfl) (by kernel_rfl)
theorem ok220:OkAt 220 (some ir220):=okSome [(0,[0,3,8,9,10,11]),(2,[0,3,8,9,12]),(2000002,[1])] (by kernel_rfl) (by kernel_rfl)
theorem ok221:OkAt 221 (some ir221):=okSome [(0,[0,1,8,9,10,11])] (by kernel_rfl) (by kernel_rfl)
theorem ok222:OkAt 222 (some ir222):=okSome [(2000002,[1])] (by kernel_rfl) (by kernel_rfl)
theorem ok223:OkAt 223 (some ir223):=okSome [(0,[0,8,9])] (by kernel_rfl) (by kernel_rfl)
theorem ok224:OkAt 224 (some ir224):=okSome [(0,[0,1,2,3,9,10]),(2,[0,1,2,3,9,10]),(4,[0,1,2,3,9,10,11]),(6,[0,1,2,3,9,10,12]),(2000002,[1])] (by kernel_rfl) (by kernel_rfl)
theorem ok225:OkAt 225 (some ir225):=okSome [(0,[0,1,4,11,12]),(2,[0,1,4,11,12]),(4,[0,1,4,11,12]),(2000002,[1])] (by kernel_rfl) (by kernel_rfl)
theorem ok226:OkAt 226 (some ir226):=okSome [(0,[0,1,4,12,13]),(2,[0,1,4,12,13]),(4,[0,1,4,12,13]),(6,[0,1,4,12,13]),(8,[0,1,4,12,13]),(2000002,[1])] (by kernel_rfl) (by kernel_rfl)
theorem ok227:OkAt 227 (some ir227):=okSome [] (by kernel_rfl) (by kernel_rfl)
theorem ok228:OkAt 228 (some ir228):=okSome [] (by kernel_rfl) (by kernel_rfl)
theorem ok229:OkAt 229 (some ir229):=okSome [(0,[0,2,4,10,11])] (by kernel_rfl) (by kernel_rfl)
theorem ok230:OkAt 230 (some ir230):=okSome [(2000000,[1])] (by kernel_rfl) (by kernel_rfl)
theorem ok232:OkAt 232 (some ir232):=okSome [] (by kernel_rfl) (by kernel_rfl)
theorem ok233:OkAt 233 (some ir233):=okSome [] (by kernel_rfl) (by kernel_rfl)
theorem ok234:OkAt 234 (some ir234):=okSome [] (by kernel_rfl) (by kernel_rfl)
theorem ok235:OkAt 235 (some ir235):=okSome [(0,[0,4,5,6])] (by kernel_rfl) (by kernel_rfl)
theorem ok246:OkAt 246 (some ir246):=okSome [(0,[4,6,18,19]),(2000000,[1])] (by kernel_rfl) (by kernel_rfl)
theorem ok247:OkAt 247 (some ir247):=okSome [(0,[1,7,25,26,27]),(2,[1,7,9,10,25,26,27])] (by kernel_rfl) (by kernel_rfl)
theorem ok248:OkAt 248 (some ir248):=okSome [(0,[0,1,7]),(2,[0,1,7,8,9,10])] (by kernel_rfl) (by kernel_rfl)
theorem ok249:OkAt 249 (some ir249):=okSome [(0,[0,1,5])] (by kernel_rfl) (by kernel_rfl)
theorem ok250:OkAt 250 (some ir250):=okSome [] (by kernel_rfl) (by kernel_rfl)
theorem ok251:OkAt 251 (some ir251):=okSome [(0,[0,2,3,4,10]),(2000002,[1])] (by kernel_rfl) (by kernel_rfl)
theorem ok252:OkAt 252 (some ir252):=okSome [] (by kernel_rfl) (by kernel_rfl)
theorem ok253:OkAt 253 (some ir253):=okSome [] (by kernel_rfl) (by kernel_rfl)
theorem ok254:OkAt 254 (some ir254):=okSome [(2000002,[1])] (by kernel_rfl) (by kernel_rfl)
theorem ok255:OkAt 255 (some ir255):=okSome [(2000002,[1])] (by kernel_rfl) (by kernel_rfl)
theorem ok256:OkAt 256 (some ir256):=okSome [(0,[0,1,2,3,10])] (by kernel_rfl) (by kernel_rfl)
theorem ok260:OkAt 260 (some ir260):=okSome [] (by kernel_rfl) (by kernel_rfl)
theorem ok269:OkAt 269 (some ir269):=okSome [(0,[2,4,18,19,20])] (by kernel_rfl) (by kernel_rfl)
theorem ok270:OkAt 270 (some ir270):=okSome [(0,[1,5,12,13,14])] (by kernel_rfl) (by kernel_rfl)
theorem ok271:OkAt 271 (some ir271):=okSome [(0,[0,3])] (by kernel_rfl) (by kernel_rfl)
theorem ok272:OkAt 272 (some ir272):=okSome [] (by kernel_rfl) (by kernel_rfl)
theorem ok273:OkAt 273 (some ir273):=okSome [(0,[6,7,8])] (by kernel_rfl) (by kernel_rfl)
theorem ok274:OkAt 274 (some ir274):=okSome [(1,[1,22])] (by kernel_rfl) (by kernel_rfl)
theorem ok275:OkAt 275 (some ir275):=okSome [(0,[1,5,6,11])] (by kernel_rfl) (by kernel_rfl)
theorem ok276:OkAt 276 (some ir276):=okSome [(0,[0,1,7,8])] (by kernel_rfl) (by kernel_rfl)
theorem ok277:OkAt 277 (some ir277):=okSome [(2000002,[1])] (by kernel_rfl) (by kernel_rfl)
theorem ok282:OkAt 282 (some ir282):=okSome [(1,[1,20,21,22])] (by kernel_rfl) (by kernel_rfl)
theorem ok283:OkAt 283 (some ir283):=okSome [(0,[0,1,2,3,4,10,11])] (by kernel_rfl) (by kernel_rfl)
theorem ok284:OkAt 284 (some ir284):=okSome [(0,[9])] (by kernel_rfl) (by kernel_rfl)
theorem ok286:OkAt 286 (some ir286):=okSome [(0,[0,1,2,3,8]),(2,[0,1,2,3,8,9])] (by kernel_rfl) (by kernel_rfl)
theorem ok287:OkAt 287 (some ir287):=okSome [(0,[0,3,8,9,10,11]),(2,[0,3,8,9,12])] (by kernel_rfl) (by kernel_rfl)
theorem ok288:OkAt 288 (some ir288):=okSome [(0,[0,1,8,9,10,11])] (by kernel_rfl) (by kernel_rfl)
theorem ok289:OkAt 289 (some ir289):=okSome [] (by kernel_rfl) (by kernel_rfl)
theorem ok290:OkAt 290 (some ir290):=okSome [(0,[0,8,9])] (by kernel_rfl) (by kernel_rfl)
theorem ok291:OkAt 291 (some ir291):=okSome [(0,[0,1,2,3,9,10]),(2,[0,1,2,3,9,10]),(4,[0,1,2,3,9,10,11]),(6,[0,1,2,3,9,10,12])] (by kernel_rfl) (by kernel_rfl)
theorem ok292:OkAt 292 (some ir292):=okSome [(0,[0,1,4,11,12]),(2,[0,1,4,11,12]),(4,[0,1,4,11,12])] (by kernel_rfl) (by kernel_rfl)
theorem ok293:OkAt 293 (some ir293):=okSome [(0,[0,1,4,12,13]),(2,[0,1,4,12,13]),(4,[0,1,4,12,13]),(6,[0,1,4,12,13]),(8,[0,1,4,12,13])] (by kernel_rfl) (by kernel_rfl)
theorem ok295:OkAt 295 (some ir295):=okSome [(0,[0,2,3,4,10])] (by kernel_rfl) (by kernel_rfl)
theorem ok296:OkAt 296 (some ir296):=okSome [] (by kernel_rfl) (by kernel_rfl)
theorem ok297:OkAt 297 (some ir297):=okSome [] (by kernel_rfl) (by kernel_rfl)
theorem ok298:OkAt 298 (some ir298):=okSome [] (by kernel_rfl) (by kernel_rfl)
theorem pus:pure 7=true∧pure 12=true∧pure 14=true∧pure 15=true∧pure 17=true∧pure 21=true∧pure 30=true∧pure 36=true∧pure 37=true∧pure 38=true∧pure 39=true∧pure 40=true∧pure 41=true∧pure 42=true∧pure 43=true∧pure 44=true∧pure 49=true∧pure 56=true∧pure 57=true∧pure 58=true∧pure 61=true∧pure 62=true∧pure 67=true∧pure 68=false∧pure 69=true∧pure 70=true∧pure 71=true∧pure 75=true∧pure 79=true∧pure 80=true∧pure 81=true∧pure 91=true∧pure 92=false∧pure 93=false∧pure 94=false∧pure 95=true∧pure 96=true∧pure 97=false∧pure 98=false∧pure 99=false∧pure 100=true∧pure 101=true∧pure 102=false∧pure 103=true∧pure 104=true∧pure 105=true∧pure 106=true∧pure 110=true∧pure 112=false∧pure 117=false∧pure 118=false∧pure 119=false∧pure 120=false∧pure 121=true∧pure 122=true∧pure 125=true∧pure 126=true∧pure 127=true∧pure 128=true∧pure 129=false∧pure 130=false∧pure 131=true∧pure 138=true∧pure 139=true∧pure 140=true∧pure 141=true∧pure 146=false∧pure 147=true∧pure 148=false∧pure 149=true∧pure 150=false∧pure 151=true∧pure 152=true∧pure 153=true∧pure 154=false∧pure 155=false∧pure 156=true∧pure 157=true∧pure 162=true∧pure 164=true∧pure 165=true∧pure 166=false∧pure 167=true∧pure 176=false∧pure 177=false∧pure 178=true∧pure 179=false∧pure 180=true∧pure 181=true∧pure 184=true∧pure 185=true∧pure 186=false∧pure 187=true∧pure 188=false∧pure 189=false∧pure 190=true∧pure 191=true∧pure 192=true∧pure 193=true∧pure 194=false∧pure 199=true∧pure 200=true∧pure 201=true∧pure 202=false∧pure 203=false∧pure 204=true∧pure 205=true∧pure 212=false∧pure 213=true∧pure 214=true∧pure 215=true∧pure 216=true∧pure 217=true∧pure 218=true∧pure 219=false∧pure 220=false∧pure 221=false∧pure 222=false∧pure 223=false∧pure 224=false∧pure 225=false∧pure 226=false∧pure 227=true∧pure 228=true∧pure 229=false∧pure 230=false∧pure 232=false∧pure 233=true∧pure 234=true∧pure 235=true∧pure 246=true∧pure 247=true∧pure 248=true∧pure 249=true∧pure 250=true∧pure 251=false∧pure 252=true∧pure 253=false∧pure 254=false∧pure 255=false∧pure 256=false∧pure 260=true∧pure 269=true∧pure 270=true∧pure 271=true∧pure 272=false∧pure 273=true∧pure 274=true∧pure 275=true∧pure 276=true∧pure 277=false∧pure 282=true∧pure 283=false∧pure 284=true∧pure 286=false∧pure 287=false∧pure 288=false∧pure 289=false∧pure 290=false∧pure 291=false∧pure 292=false∧pure 293=false∧pure 295=false∧pure 296=false∧pure 297=false∧pure 298=false:=⟨rfl,rfl,rfl,rfl,rfl,rfl,rfl,rfl,rfl,rfl,rfl,rfl,rfl,rfl,rfl,rfl,rfl,rfl,rfl,rfl,rfl,rfl,rfl,rfl,rfl,rfl,rfl,rfl,rfl,rfl,rfl,rfl,rfl,rfl,rfl,rfl,rfl,rfl,rfl,rfl,rfl,rfl,rfl,rfl,rfl,rfl,rfl,rfl,rfl,rfl,rfl,rfl,rfl,rfl,rfl,rfl,rfl,rfl,rfl,rfl,rfl,rfl,rfl,rfl,rfl,rfl,rfl,rfl,rfl,rfl,rfl,rfl,rfl,rfl,rfl,rfl,rfl,rfl,rfl,rfl,rfl,rfl,rfl,rfl,rfl,rfl,rfl,rfl,rfl,rfl,rfl,rfl,rfl,rfl,rfl,rfl,rfl,rfl,rfl,rfl,rfl,rfl,rfl,rfl,rfl,rfl,rfl,rfl,rfl,rfl,rfl,rfl,rfl,rfl,rfl,rfl,rfl,rfl,rfl,rfl,rfl,rfl,rfl,rfl,rfl,rfl,rfl,rfl,rfl,rfl,rfl,rfl,rfl,rfl,rfl,rfl,rfl,rfl,rfl,rfl,rfl,rfl,rfl,rfl,rfl,rfl,rfl,rfl,rfl,rfl,rfl,rfl,rfl,rfl,rfl,rfl,rfl,rfl,rfl,rfl,rfl,rfl,rfl,rfl,rfl,rfl⟩
theorem Lpure:L.pure=pure:=rfl
def AllOk:Nat→List (Option IF)→Prop
 |_,[]=>True
 |i,o::r=>OkAt i o∧AllOk (i+1) r
theorem AllOk.get: ∀(i:Nat) (l:List (Option IF)),AllOk i l→∀k,OkAt (i+k) (l[k]?).join
 |i,[],_,k=>fun fn h=>by simp at h
 |i,o::r,h,0=>by simpa using h.1
 |i,o::r,h,k+1=>by
  have:=AllOk.get (i+1) r h.2 k
  rw [show i+(k+1)=i+1+k by omega]
  simpa using this
theorem allOk:AllOk 0 table:=⟨okNone 0,okNone 1,okNone 2,okNone 3,okNone 4,okNone 5,okNone 6,ok7,okNone 8,okNone 9,okNone 10,okNone 11,ok12,okNone 13,ok14,ok15,okNone 16,ok17,okNone 18,okNone 19,okNone 20,ok21,okNone 22,okNone 23,okNone 24,okNone 25,okNone 26,okNone 27,okNone 28,okNone 29,ok30,okNone 31,okNone 32,okNone 33,okNone 34,okNone 35,ok36,ok37,ok38,ok39,ok40,ok41,ok42,ok43,ok44,okNone 45,okNone 46,okNone 47,okNone 48,ok49,okNone 50,okNone 51,okNone 52,okNone 53,okNone 54,okNone 55,ok56,ok57,ok58,okNone 59,okNone 60,ok61,ok62,okNone 63,okNone 64,okNone 65,okNone 66,ok67,ok68,ok69,ok70,ok71,okNone 72,okNone 73,okNone 74,ok75,okNone 76,okNone 77,okNone 78,ok79,ok80,ok81,okNone 82,okNone 83,okNone 84,okNone 85,okNone 86,okNone 87,okNone 88,okNone 89,okNone 90,ok91,ok92,ok93,ok94,ok95,ok96,ok97,ok98,ok99,ok100,ok101,ok102,ok103,ok104,ok105,ok106,okNone 107,okNone 108,okNone 109,ok110,okNone 111,ok112,okNone 113,okNone 114,okNone 115,okNone 116,ok117,ok118,ok119,ok120,ok121,ok122,okNone 123,okNone 124,ok125,ok126,ok127,ok128,ok129,ok130,ok131,okNone 132,okNone 133,okNone 134,okNone 135,okNone 136,okNone 137,ok138,ok139,ok140,ok141,okNone 142,okNone 143,okNone 144,okNone 145,ok146,ok147,ok148,ok149,ok150,ok151,ok152,ok153,ok154,ok155,ok156,ok157,okNone 158,okNone 159,okNone 160,okNone 161,ok162,okNone 163,ok164,ok165,ok166,ok167,okNone 168,okNone 169,okNone 170,okNone 171,okNone 172,okNone 173,okNone 174,okNone 175,ok176,ok177,ok178,ok179,ok180,ok181,okNone 182,okNone 183,ok184,ok185,ok186,ok187,ok188,ok189,ok190,ok191,ok192,ok193,ok194,okNone 195,okNone 196,okNone 197,okNone 198,ok199,ok200,ok201,ok202,ok203,ok204,ok205,okNone 206,okNone 207,okNone 208,okNone 209,okNone 210,okNone 211,ok212,ok213,ok214,ok215,ok216,ok217,ok218,ok219,ok220,ok221,ok222,ok223,ok224,ok225,ok226,ok227,ok228,ok229,ok230,okNone 231,ok232,ok233,ok234,ok235,okNone 236,okNone 237,okNone 238,okNone 239,okNone 240,okNone 241,okNone 242,okNone 243,okNone 244,okNone 245,ok246,ok247,ok248,ok249,ok250,ok251,ok252,ok253,ok254,ok255,ok256,okNone 257,okNone 258,okNone 259,ok260,okNone 261,okNone 262,okNone 263,okNone 264,okNone 265,okNone 266,okNone 267,okNone 268,ok269,ok270,ok271,ok272,ok273,ok274,ok275,ok276,ok277,okNone 278,okNone 279,okNone 280,okNone 281,ok282,ok283,ok284,okNone 285,ok286,ok287,ok288,ok289,ok290,ok291,ok292,ok293,okNone 294,ok295,ok296,ok297,ok298,trivial⟩
theorem fnsOk:FnsOk Tryz.prog G L:=fun f fn h=>by
 have:=AllOk.get 0 table allOk f
 rw [Nat.zero_add] at this
 exact this fn h
theorem mix:Tryz.prog.follows .mixedOrders=true:=by kernel_rfl
theorem libOk:LibOk Tryz.prog G L:=⟨fnsOk,primOk_none fun _ _ _=>rfl⟩
end Go.Proofs.YtdnjagnechibhaaGreatDoor.Vm
