/- What is proved: each function of the table is the function of that number in the given program. No condition. -/
import Derived.Test.YtdnjagnechibhaaGreatDoorIr4
import Derived.Test.YtdnjagnechibhaaGreatDoorChecked
import Derived.KernelRfl
set_option linter.all false
namespace Go.Proofs.YtdnjagnechibhaaGreatDoor.Vm
open Go Go.Ev
set_option maxRecDepth 100000
def pures : List Nat := [2, 3, 4, 5, 6, 7, 8, 9, 10, 11, 12, 13, 14, 15, 16, 17, 18, 19, 20, 21, 22, 23, 24, 25, 29, 30, 31, 32, 33, 34, 35, 36, 37, 38, 39, 40, 41, 42, 43, 44, 45, 46, 47, 48, 49, 50, 51, 56, 57, 58, 59, 60, 61, 62, 63, 64, 65, 66, 67, 69, 70, 71, 72, 75, 76, 77, 78, 79, 80, 81, 82, 83, 84, 85, 86, 87, 88, 89, 90, 91, 95, 96, 100, 101, 103, 104, 105, 106, 107, 108, 109, 110, 111, 121, 122, 123, 125, 126, 127, 128, 131, 136, 137, 138, 139, 140, 141, 142, 143, 144, 145, 147, 149, 151, 152, 153, 156, 157, 158, 159, 160, 161, 162, 163, 164, 165, 167, 172, 173, 174, 175, 178, 180, 181, 182, 183, 184, 185, 187, 190, 191, 192, 193, 196, 197, 199, 200, 201, 204, 205, 209, 210, 213, 214, 215, 216, 217, 218, 227, 228, 231, 233, 234, 235, 244, 245, 246, 247, 248, 249, 250, 252, 257, 258, 259, 260, 268, 269, 270, 271, 273, 274, 275, 276, 278, 279, 280, 282, 284, 285, 336, 337, 339, 340, 341, 342, 357]
def pure (f : FuncId) : Bool := pures.elem f
def table : List (Option IF) := [none, none, none, none, none, some ir5, none, none, none, none, none, none, none, none, some ir14, some ir15, none, some ir17, none, none, none, some ir21, none, some ir23, some ir24, some ir25, some ir26, none, none, some ir29, some ir30, none, none, none, none, none, none, none, none, none, none, none, none, some ir43, none, none, none, none, none, none, none, none, none, none, none, none, none, none, none, none, none, some ir61, some ir62, none, none, none, none, some ir67, some ir68, some ir69, some ir70, some ir71, some ir72, some ir73, some ir74, some ir75, none, some ir77, some ir78, some ir79, some ir80, some ir81, none, none, none, none, none, none, none, none, none, none, none, some ir93, none, none, none, none, some ir98, none, none, none, some ir102, none, some ir104, none, none, none, none, none, none, none, some ir112, none, none, none, none, none, none, none, none, some ir121, some ir122, none, none, some ir125, some ir126, some ir127, some ir128, some ir129, some ir130, some ir131, some ir132, none, some ir134, none, some ir136, some ir137, some ir138, some ir139, some ir140, some ir141, none, none, none, none, none, none, none, none, some ir150, some ir151, some ir152, some ir153, none, none, none, none, none, none, none, none, some ir162, none, some ir164, some ir165, some ir166, some ir167, none, none, none, none, some ir172, some ir173, some ir174, some ir175, some ir176, some ir177, some ir178, some ir179, some ir180, some ir181, none, none, none, none, none, some ir187, some ir188, some ir189, some ir190, none, none, none, none, none, none, none, none, some ir199, some ir200, some ir201, some ir202, some ir203, some ir204, some ir205, none, none, none, none, some ir210, some ir211, some ir212, some ir213, some ir214, some ir215, some ir216, some ir217, some ir218, none, none, none, none, none, none, none, none, some ir227, some ir228, some ir229, none, none, some ir232, some ir233, some ir234, some ir235, none, none, none, none, none, none, none, none, some ir244, some ir245, some ir246, some ir247, some ir248, some ir249, some ir250, none, some ir252, some ir253, none, none, some ir256, none, none, none, some ir260, none, none, none, none, none, none, none, some ir268, some ir269, some ir270, some ir271, some ir272, some ir273, some ir274, some ir275, some ir276, none, none, none, some ir280, none, some ir282, some ir283, some ir284, some ir285, some ir286, some ir287, some ir288, some ir289, some ir290, some ir291, some ir292, some ir293, none, some ir295, some ir296, some ir297, some ir298, none, none, none, none, none, none, none, none, none, none, none, none, none, none, none, none, none, none, none, some ir318, none, some ir320, some ir321, none, none, none, none, none, none, some ir328, none, none, some ir331, some ir332, none, some ir334, none, some ir336, some ir337, none, some ir339, some ir340, some ir341, some ir342, none, none, none, some ir346, some ir347, none, none, some ir350]
def L : Lib := { fns := fun f => (table[f]?).join, pure := pure, prim := primPile }
def G (g : Nat) : List Nat := kept [(1, [0, 1, 56, 2, 57, 49, 28, 3, 61, 58, 42, 50, 38, 29, 17, 4, 62, 47, 59, 36, 45, 43, 51, 22, 53, 39, 33, 30, 24, 18, 12, 5, 63, 55, 48, 27, 60, 41, 37, 16, 46, 35, 44, 21, 52, 32, 23, 11, 54, 26, 40, 15, 34, 20, 31, 10, 25, 14, 19, 9, 13, 8, 7, 6])] g
def okKeep (l : List (Nat × List Nat)) : Bool := l.all fun x => decide (x.1 < glKey) || x.2 == G (x.1 - glKey)
theorem okKeep_ok {l : List (Nat × List Nat)} (h : okKeep l = true) (g : Nat) (hne : kept l (glKey + g) ≠ []) : kept l (glKey + g) = G g := by
  unfold kept at hne ⊢
  cases hf : l.find? (fun x => x.1 == glKey + g) with
  | none => simp [hf] at hne
  | some x =>
    have hm := List.mem_of_find?_eq_some hf
    have he : x.1 = glKey + g := by simpa using List.find?_some hf
    have := (List.all_eq_true.1 h) x hm
    simp only [Bool.or_eq_true, decide_eq_true_eq, beq_iff_eq, he] at this
    rcases this with h1 | h1
    · omega
    · rw [Nat.add_sub_cancel_left] at h1; exact h1
def OkAt (f : FuncId) (o : Option IF) : Prop := ∀ fn, o = some fn → ∃ keep : Nat → List Tmp, (∀ g, keep (glKey + g) ≠ [] → keep (glKey + g) = G g) ∧ compF Tryz.prog pure keep f = some fn
theorem okNone (f : FuncId) : OkAt f none := fun fn h => by simp at h
theorem okSome {f : FuncId} {fn : IF} (l : List (Nat × List Nat)) (h : compF Tryz.prog pure (kept l) f = some fn) (hk : okKeep l = true) : OkAt f (some fn) := fun fn' h' => ⟨kept l, okKeep_ok hk, by rw [h, ← h']⟩
theorem ok5 : OkAt 5 (some ir5) := okSome [(0, [8, 9, 13, 15, 71, 72, 73])] (by kernel_rfl) (by kernel_rfl)
theorem ok14 : OkAt 14 (some ir14) := okSome [(0, [0, 1, 12, 13])] (by kernel_rfl) (by kernel_rfl)
theorem ok15 : OkAt 15 (some ir15) := okSome [] (by kernel_rfl) (by kernel_rfl)
theorem ok17 : OkAt 17 (some ir17) := okSome [] (by kernel_rfl) (by kernel_rfl)
theorem ok21 : OkAt 21 (some ir21) := okSome [] (by kernel_rfl) (by kernel_rfl)
theorem ok23 : OkAt 23 (some ir23) := okSome [(0, [1, 7, 13, 14])] (by kernel_rfl) (by kernel_rfl)
theorem ok24 : OkAt 24 (some ir24) := okSome [(0, [1, 7, 11, 12, 13])] (by kernel_rfl) (by kernel_rfl)
theorem ok25 : OkAt 25 (some ir25) := okSome [] (by kernel_rfl) (by kernel_rfl)
theorem ok26 : OkAt 26 (some ir26) := okSome [] (by kernel_rfl) (by kernel_rfl)
theorem ok29 : OkAt 29 (some ir29) := okSome [] (by kernel_rfl) (by kernel_rfl)
theorem ok30 : OkAt 30 (some ir30) := okSome [] (by kernel_rfl) (by kernel_rfl)
theorem ok43 : OkAt 43 (some ir43) := okSome [(1000006, [10]), (2000001, [102])] (by kernel_rfl) (by kernel_rfl)
theorem ok61 : OkAt 61 (some ir61) := okSome [(1, [1, 20, 21, 22])] (by kernel_rfl) (by kernel_rfl)
theorem ok62 : OkAt 62 (some ir62) := okSome [(0, [1, 4, 5, 10, 11])] (by kernel_rfl) (by kernel_rfl)
theorem ok67 : OkAt 67 (some ir67) := okSome [] (by kernel_rfl) (by kernel_rfl)
theorem ok68 : OkAt 68 (some ir68) := okSome [(0, [0, 1, 9, 10, 11])] (by kernel_rfl) (by kernel_rfl)
theorem ok69 : OkAt 69 (some ir69) := okSome [(0, [0, 1, 7, 8])] (by kernel_rfl) (by kernel_rfl)
theorem ok70 : OkAt 70 (some ir70) := okSome [] (by kernel_rfl) (by kernel_rfl)
theorem ok71 : OkAt 71 (some ir71) := okSome [] (by kernel_rfl) (by kernel_rfl)
theorem ok72 : OkAt 72 (some ir72) := okSome [(0, [0, 5, 6, 26, 27, 28]), (2000000, [1])] (by kernel_rfl) (by kernel_rfl)
theorem ok73 : OkAt 73 (some ir73) := okSome [] (by kernel_rfl) (by kernel_rfl)
theorem ok74 : OkAt 74 (some ir74) := okSome [] (by kernel_rfl) (by kernel_rfl)
theorem ok75 : OkAt 75 (some ir75) := okSome [(1, [13, 14, 15])] (by kernel_rfl) (by kernel_rfl)
theorem ok77 : OkAt 77 (some ir77) := okSome [(1, [0, 1, 7, 22, 23, 24])] (by kernel_rfl) (by kernel_rfl)
theorem ok78 : OkAt 78 (some ir78) := okSome [] (by kernel_rfl) (by kernel_rfl)
theorem ok79 : OkAt 79 (some ir79) := okSome [] (by kernel_rfl) (by kernel_rfl)
theorem ok80 : OkAt 80 (some ir80) := okSome [] (by kernel_rfl) (by kernel_rfl)
theorem ok81 : OkAt 81 (some ir81) := okSome [] (by kernel_rfl) (by kernel_rfl)
theorem ok93 : OkAt 93 (some ir93) := okSome [(0, [0, 1, 7, 8])] (by kernel_rfl) (by kernel_rfl)
theorem ok98 : OkAt 98 (some ir98) := okSome [] (by kernel_rfl) (by kernel_rfl)
theorem ok102 : OkAt 102 (some ir102) := okSome [(1, [0, 6, 7, 27, 28, 29, 3000000]), (3, [0, 6, 7, 9, 27, 28, 29, 36, 37, 38]), (2000000, [1]), (2000003, [1]), (2000001, [2000153])] (by kernel_rfl) (by kernel_rfl)
theorem ok104 : OkAt 104 (some ir104) := okSome [(0, [1, 2, 7, 10, 11, 12])] (by kernel_rfl) (by kernel_rfl)
theorem ok112 : OkAt 112 (some ir112) := okSome [] (by kernel_rfl) (by kernel_rfl)
theorem ok121 : OkAt 121 (some ir121) := okSome [] (by kernel_rfl) (by kernel_rfl)
theorem ok122 : OkAt 122 (some ir122) := okSome [(0, [0, 3])] (by kernel_rfl) (by kernel_rfl)
theorem ok125 : OkAt 125 (some ir125) := okSome [] (by kernel_rfl) (by kernel_rfl)
theorem ok126 : OkAt 126 (some ir126) := okSome [] (by kernel_rfl) (by kernel_rfl)
theorem ok127 : OkAt 127 (some ir127) := okSome [] (by kernel_rfl) (by kernel_rfl)
theorem ok128 : OkAt 128 (some ir128) := okSome [] (by kernel_rfl) (by kernel_rfl)
theorem ok129 : OkAt 129 (some ir129) := okSome [] (by kernel_rfl) (by kernel_rfl)
theorem ok130 : OkAt 130 (some ir130) := okSome [] (by kernel_rfl) (by kernel_rfl)
theorem ok131 : OkAt 131 (some ir131) := okSome [] (by kernel_rfl) (by kernel_rfl)
theorem ok132 : OkAt 132 (some ir132) := okSome [] (by kernel_rfl) (by kernel_rfl)
theorem ok134 : OkAt 134 (some ir134) := okSome [(0, [3, 4, 5]), (2, [3, 6, 61]), (4, [3, 6, 8]), (6, [3, 11, 12])] (by kernel_rfl) (by kernel_rfl)
theorem ok136 : OkAt 136 (some ir136) := okSome [(0, [0, 3, 6, 7])] (by kernel_rfl) (by kernel_rfl)
theorem ok137 : OkAt 137 (some ir137) := okSome [(0, [0, 7, 8, 9])] (by kernel_rfl) (by kernel_rfl)
theorem ok138 : OkAt 138 (some ir138) := okSome [(0, [1, 3, 4, 7, 8, 9])] (by kernel_rfl) (by kernel_rfl)
theorem ok139 : OkAt 139 (some ir139) := okSome [] (by kernel_rfl) (by kernel_rfl)
theorem ok140 : OkAt 140 (some ir140) := okSome [] (by kernel_rfl) (by kernel_rfl)
theorem ok141 : OkAt 141 (some ir141) := okSome [] (by kernel_rfl) (by kernel_rfl)
theorem ok150 : OkAt 150 (some ir150) := okSome [(0, [0, 1, 2, 6, 7, 8]), (2, [0, 1, 2, 6]), (4, [0, 1, 2, 6, 7, 8])] (by kernel_rfl) (by kernel_rfl)
theorem ok151 : OkAt 151 (some ir151) := okSome [(0, [2, 3, 6, 7, 8])] (by kernel_rfl) (by kernel_rfl)
theorem ok152 : OkAt 152 (some ir152) := okSome [] (by kernel_rfl) (by kernel_rfl)
theorem ok153 : OkAt 153 (some ir153) := okSome [] (by kernel_rfl) (by kernel_rfl)
theorem ok162 : OkAt 162 (some ir162) := okSome [(0, [0, 3, 7, 8])] (by kernel_rfl) (by kernel_rfl)
theorem ok164 : OkAt 164 (some ir164) := okSome [(4000001, [0, 1, 56, 2, 57, 49, 28, 3, 61, 58, 42, 50, 38, 29, 17, 4, 62, 47, 59, 36, 45, 43, 51, 22, 53, 39, 33, 30, 24, 18, 12, 5, 63, 55, 48, 27, 60, 41, 37, 16, 46, 35, 44, 21, 52, 32, 23, 11, 54, 26, 40, 15, 34, 20, 31, 10, 25, 14, 19, 9, 13, 8, 7, 6])] (by kernel_rfl) (by kernel_rfl)
theorem ok165 : OkAt 165 (some ir165) := okSome [] (by kernel_rfl) (by kernel_rfl)
theorem ok166 : OkAt 166 (some ir166) := okSome [(0, [0, 1, 7, 8])] (by kernel_rfl) (by kernel_rfl)
theorem ok167 : OkAt 167 (some ir167) := okSome [] (by kernel_rfl) (by kernel_rfl)
theorem ok172 : OkAt 172 (some ir172) := okSome [] (by kernel_rfl) (by kernel_rfl)
theorem ok173 : OkAt 173 (some ir173) := okSome [(0, [0, 3, 4]), (2, [0, 3, 4, 5, 6]), (4, [0, 3, 40, 41]), (6, [0, 3, 9, 57, 58]), (8, [0, 3, 12])] (by kernel_rfl) (by kernel_rfl)
theorem ok174 : OkAt 174 (some ir174) := okSome [(0, [3, 6, 7, 8])] (by kernel_rfl) (by kernel_rfl)
theorem ok175 : OkAt 175 (some ir175) := okSome [(0, [1, 5, 8, 9, 10])] (by kernel_rfl) (by kernel_rfl)
theorem ok176 : OkAt 176 (some ir176) := okSome [] (by kernel_rfl) (by kernel_rfl)
theorem ok177 : OkAt 177 (some ir177) := okSome [] (by kernel_rfl) (by kernel_rfl)
theorem ok178 : OkAt 178 (some ir178) := okSome [] (by kernel_rfl) (by kernel_rfl)
theorem ok179 : OkAt 179 (some ir179) := okSome [(1, [0, 1, 5, 6, 8, 9, 45, 46, 47])] (by kernel_rfl) (by kernel_rfl)
theorem ok180 : OkAt 180 (some ir180) := okSome [] (by kernel_rfl) (by kernel_rfl)
theorem ok181 : OkAt 181 (some ir181) := okSome [] (by kernel_rfl) (by kernel_rfl)
theorem ok187 : OkAt 187 (some ir187) := okSome [] (by kernel_rfl) (by kernel_rfl)
theorem ok188 : OkAt 188 (some ir188) := okSome [(0, [0, 1, 2, 3, 8]), (2, [0, 1, 2, 3, 8, 9])] (by kernel_rfl) (by kernel_rfl)
theorem ok189 : OkAt 189 (some ir189) := okSome [(0, [0, 1, 4, 10, 11]), (2, [0, 10, 13]), (4, [0, 2, 4, 14, 15]), (6, [0, 14, 17]), (8, [0, 1, 2, 3, 4, 18, 19, 20, 21, 22])] (by kernel_rfl) (by kernel_rfl)
theorem ok190 : OkAt 190 (some ir190) := okSome [(0, [0, 3, 7, 8])] (by kernel_rfl) (by kernel_rfl)
theorem ok199 : OkAt 199 (some ir199) := okSome [(0, [0, 1])] (by kernel_rfl) (by kernel_rfl)
theorem ok200 : OkAt 200 (some ir200) := okSome [(0, [0, 1])] (by kernel_rfl) (by kernel_rfl)
theorem ok201 : OkAt 201 (some ir201) := okSome [(0, [0, 2, 4])] (by kernel_rfl) (by kernel_rfl)
theorem ok202 : OkAt 202 (some ir202) := okSome [(0, [0, 1])] (by kernel_rfl) (by kernel_rfl)
theorem ok203 : OkAt 203 (some ir203) := okSome [(0, [0, 1])] (by kernel_rfl) (by kernel_rfl)
theorem ok204 : OkAt 204 (some ir204) := okSome [(0, [0, 1])] (by kernel_rfl) (by kernel_rfl)
theorem ok205 : OkAt 205 (some ir205) := okSome [(0, [0, 1])] (by kernel_rfl) (by kernel_rfl)
theorem ok210 : OkAt 210 (some ir210) := okSome [(0, [0, 3, 4, 20]), (2, [0, 3, 4, 6]), (4, [0, 3, 4, 7, 8]), (6, [0, 3, 4, 9])] (by kernel_rfl) (by kernel_rfl)
theorem ok211 : OkAt 211 (some ir211) := okSome [(0, [0, 1, 2, 3, 4, 10])] (by kernel_rfl) (by kernel_rfl)
theorem ok212 : OkAt 212 (some ir212) := okSome [] (by kernel_rfl) (by kernel_rfl)
theorem ok213 : OkAt 213 (some ir213) := okSome [] (by kernel_rfl) (by kernel_rfl)
theorem ok214 : OkAt 214 (some ir214) := okSome [] (by kernel_rfl) (by kernel_rfl)
theorem ok215 : OkAt 215 (some ir215) := okSome [(0, [0, 3])] (by kernel_rfl) (by kernel_rfl)
theorem ok216 : OkAt 216 (some ir216) := okSome [] (by kernel_rfl) (by kernel_rfl)
theorem ok217 : OkAt 217 (some ir217) := okSome [] (by kernel_rfl) (by kernel_rfl)
theorem ok218 : OkAt 218 (some ir218) := okSome [(0, [0, 3, 11, 12]), (1000007, [3])] (by kernel_rfl) (by kernel_rfl)
theorem ok227 : OkAt 227 (some ir227) := okSome [] (by kernel_rfl) (by kernel_rfl)
theorem ok228 : OkAt 228 (some ir228) := okSome [] (by kernel_rfl) (by kernel_rfl)
theorem ok229 : OkAt 229 (some ir229) := okSome [(0, [0, 2, 4, 10, 11])] (by kernel_rfl) (by kernel_rfl)
theorem ok232 : OkAt 232 (some ir232) := okSome [] (by kernel_rfl) (by kernel_rfl)
theorem ok233 : OkAt 233 (some ir233) := okSome [] (by kernel_rfl) (by kernel_rfl)
theorem ok234 : OkAt 234 (some ir234) := okSome [] (by kernel_rfl) (by kernel_rfl)
theorem ok235 : OkAt 235 (some ir235) := okSome [(0, [0, 4, 5, 6])] (by kernel_rfl) (by kernel_rfl)
theorem ok244 : OkAt 244 (some ir244) := okSome [] (by kernel_rfl) (by kernel_rfl)
theorem ok245 : OkAt 245 (some ir245) := okSome [(0, [0, 1, 4])] (by kernel_rfl) (by kernel_rfl)
theorem ok246 : OkAt 246 (some ir246) := okSome [(0, [4, 6, 18, 19]), (2000000, [1])] (by kernel_rfl) (by kernel_rfl)
theorem ok247 : OkAt 247 (some ir247) := okSome [(0, [1, 7, 25, 26, 27]), (2, [1, 7, 9, 10, 25, 26, 27])] (by kernel_rfl) (by kernel_rfl)
theorem ok248 : OkAt 248 (some ir248) := okSome [(0, [0, 1, 7]), (2, [0, 1, 7, 8, 9, 10])] (by kernel_rfl) (by kernel_rfl)
theorem ok249 : OkAt 249 (some ir249) := okSome [(0, [0, 1, 5])] (by kernel_rfl) (by kernel_rfl)
theorem ok250 : OkAt 250 (some ir250) := okSome [] (by kernel_rfl) (by kernel_rfl)
theorem ok252 : OkAt 252 (some ir252) := okSome [] (by kernel_rfl) (by kernel_rfl)
theorem ok253 : OkAt 253 (some ir253) := okSome [] (by kernel_rfl) (by kernel_rfl)
theorem ok256 : OkAt 256 (some ir256) := okSome [(0, [0, 1, 2, 3, 10])] (by kernel_rfl) (by kernel_rfl)
theorem ok260 : OkAt 260 (some ir260) := okSome [] (by kernel_rfl) (by kernel_rfl)
theorem ok268 : OkAt 268 (some ir268) := okSome [] (by kernel_rfl) (by kernel_rfl)
theorem ok269 : OkAt 269 (some ir269) := okSome [(0, [2, 4, 18, 19, 20])] (by kernel_rfl) (by kernel_rfl)
theorem ok270 : OkAt 270 (some ir270) := okSome [(0, [1, 5, 12, 13, 14])] (by kernel_rfl) (by kernel_rfl)
theorem ok271 : OkAt 271 (some ir271) := okSome [(0, [0, 3])] (by kernel_rfl) (by kernel_rfl)
theorem ok272 : OkAt 272 (some ir272) := okSome [] (by kernel_rfl) (by kernel_rfl)
theorem ok273 : OkAt 273 (some ir273) := okSome [(0, [6, 7, 8])] (by kernel_rfl) (by kernel_rfl)
theorem ok274 : OkAt 274 (some ir274) := okSome [(1, [1, 22])] (by kernel_rfl) (by kernel_rfl)
theorem ok275 : OkAt 275 (some ir275) := okSome [(0, [1, 5, 6, 11])] (by kernel_rfl) (by kernel_rfl)
theorem ok276 : OkAt 276 (some ir276) := okSome [(0, [0, 1, 7, 8])] (by kernel_rfl) (by kernel_rfl)
theorem ok280 : OkAt 280 (some ir280) := okSome [] (by kernel_rfl) (by kernel_rfl)
theorem ok282 : OkAt 282 (some ir282) := okSome [(1, [1, 20, 21, 22])] (by kernel_rfl) (by kernel_rfl)
theorem ok283 : OkAt 283 (some ir283) := okSome [(0, [0, 1, 2, 3, 4, 10, 11])] (by kernel_rfl) (by kernel_rfl)
theorem ok284 : OkAt 284 (some ir284) := okSome [(0, [9])] (by kernel_rfl) (by kernel_rfl)
theorem ok285 : OkAt 285 (some ir285) := okSome [] (by kernel_rfl) (by kernel_rfl)
theorem ok286 : OkAt 286 (some ir286) := okSome [(0, [0, 1, 2, 3, 8]), (2, [0, 1, 2, 3, 8, 9])] (by kernel_rfl) (by kernel_rfl)
theorem ok287 : OkAt 287 (some ir287) := okSome [(0, [0, 3, 8, 9, 10, 11]), (2, [0, 3, 8, 9, 12])] (by kernel_rfl) (by kernel_rfl)
theorem ok288 : OkAt 288 (some ir288) := okSome [(0, [0, 1, 8, 9, 10, 11])] (by kernel_rfl) (by kernel_rfl)
theorem ok289 : OkAt 289 (some ir289) := okSome [] (by kernel_rfl) (by kernel_rfl)
theorem ok290 : OkAt 290 (some ir290) := okSome [(0, [0, 8, 9])] (by kernel_rfl) (by kernel_rfl)
theorem ok291 : OkAt 291 (some ir291) := okSome [(0, [0, 1, 2, 3, 9, 10]), (2, [0, 1, 2, 3, 9, 10]), (4, [0, 1, 2, 3, 9, 10, 11]), (6, [0, 1, 2, 3, 9, 10, 12])] (by kernel_rfl) (by kernel_rfl)
theorem ok292 : OkAt 292 (some ir292) := okSome [(0, [0, 1, 4, 11, 12]), (2, [0, 1, 4, 11, 12]), (4, [0, 1, 4, 11, 12])] (by kernel_rfl) (by kernel_rfl)
theorem ok293 : OkAt 293 (some ir293) := okSome [(0, [0, 1, 4, 12, 13]), (2, [0, 1, 4, 12, 13]), (4, [0, 1, 4, 12, 13]), (6, [0, 1, 4, 12, 13]), (8, [0, 1, 4, 12, 13])] (by kernel_rfl) (by kernel_rfl)
theorem ok295 : OkAt 295 (some ir295) := okSome [(0, [0, 2, 3, 4, 10])] (by kernel_rfl) (by kernel_rfl)
theorem ok296 : OkAt 296 (some ir296) := okSome [] (by kernel_rfl) (by kernel_rfl)
theorem ok297 : OkAt 297 (some ir297) := okSome [] (by kernel_rfl) (by kernel_rfl)
theorem ok298 : OkAt 298 (some ir298) := okSome [] (by kernel_rfl) (by kernel_rfl)
theorem ok318 : OkAt 318 (some ir318) := okSome [(0, [0, 1, 5, 6, 7])] (by kernel_rfl) (by kernel_rfl)
theorem ok320 : OkAt 320 (some ir320) := okSome [(0, [0, 1, 5]), (2, [0, 1, 5, 6])] (by kernel_rfl) (by kernel_rfl)
theorem ok321 : OkAt 321 (some ir321) := okSome [] (by kernel_rfl) (by kernel_rfl)
theorem ok328 : OkAt 328 (some ir328) := okSome [] (by kernel_rfl) (by kernel_rfl)
theorem ok331 : OkAt 331 (some ir331) := okSome [(0, [0, 1, 2, 6, 7, 8, 9, 10, 11])] (by kernel_rfl) (by kernel_rfl)
theorem ok332 : OkAt 332 (some ir332) := okSome [(0, [0, 1, 5, 6])] (by kernel_rfl) (by kernel_rfl)
theorem ok334 : OkAt 334 (some ir334) := okSome [(2, [0, 1, 5, 6, 10]), (0, [0, 1, 5, 6, 30, 31, 32]), (4, [0, 1, 12, 13, 14])] (by kernel_rfl) (by kernel_rfl)
theorem ok336 : OkAt 336 (some ir336) := okSome [(0, [0, 1, 5])] (by kernel_rfl) (by kernel_rfl)
theorem ok337 : OkAt 337 (some ir337) := okSome [(0, [2, 4])] (by kernel_rfl) (by kernel_rfl)
theorem ok339 : OkAt 339 (some ir339) := okSome [] (by kernel_rfl) (by kernel_rfl)
theorem ok340 : OkAt 340 (some ir340) := okSome [(1, [0, 1, 5, 6, 7, 8, 9, 10])] (by kernel_rfl) (by kernel_rfl)
theorem ok341 : OkAt 341 (some ir341) := okSome [(0, [0, 1, 5, 6, 7, 8, 9]), (2, [0, 1, 5, 6, 7, 8, 10])] (by kernel_rfl) (by kernel_rfl)
theorem ok342 : OkAt 342 (some ir342) := okSome [(0, [0, 4, 5]), (2, [4, 6, 7, 8])] (by kernel_rfl) (by kernel_rfl)
theorem ok346 : OkAt 346 (some ir346) := okSome [] (by kernel_rfl) (by kernel_rfl)
theorem ok347 : OkAt 347 (some ir347) := okSome [] (by kernel_rfl) (by kernel_rfl)
theorem ok350 : OkAt 350 (some ir350) := okSome [] (by kernel_rfl) (by kernel_rfl)
theorem pus : pure 5 = true ∧ pure 14 = true ∧ pure 15 = true ∧ pure 17 = true ∧ pure 21 = true ∧ pure 23 = true ∧ pure 24 = true ∧ pure 25 = true ∧ pure 26 = false ∧ pure 29 = true ∧ pure 30 = true ∧ pure 43 = true ∧ pure 61 = true ∧ pure 62 = true ∧ pure 67 = true ∧ pure 68 = false ∧ pure 69 = true ∧ pure 70 = true ∧ pure 71 = true ∧ pure 72 = true ∧ pure 73 = false ∧ pure 74 = false ∧ pure 75 = true ∧ pure 77 = true ∧ pure 78 = true ∧ pure 79 = true ∧ pure 80 = true ∧ pure 81 = true ∧ pure 93 = false ∧ pure 98 = false ∧ pure 102 = false ∧ pure 104 = true ∧ pure 112 = false ∧ pure 121 = true ∧ pure 122 = true ∧ pure 125 = true ∧ pure 126 = true ∧ pure 127 = true ∧ pure 128 = true ∧ pure 129 = false ∧ pure 130 = false ∧ pure 131 = true ∧ pure 132 = false ∧ pure 134 = false ∧ pure 136 = true ∧ pure 137 = true ∧ pure 138 = true ∧ pure 139 = true ∧ pure 140 = true ∧ pure 141 = true ∧ pure 150 = false ∧ pure 151 = true ∧ pure 152 = true ∧ pure 153 = true ∧ pure 162 = true ∧ pure 164 = true ∧ pure 165 = true ∧ pure 166 = false ∧ pure 167 = true ∧ pure 172 = true ∧ pure 173 = true ∧ pure 174 = true ∧ pure 175 = true ∧ pure 176 = false ∧ pure 177 = false ∧ pure 178 = true ∧ pure 179 = false ∧ pure 180 = true ∧ pure 181 = true ∧ pure 187 = true ∧ pure 188 = false ∧ pure 189 = false ∧ pure 190 = true ∧ pure 199 = true ∧ pure 200 = true ∧ pure 201 = true ∧ pure 202 = false ∧ pure 203 = false ∧ pure 204 = true ∧ pure 205 = true ∧ pure 210 = true ∧ pure 211 = false ∧ pure 212 = false ∧ pure 213 = true ∧ pure 214 = true ∧ pure 215 = true ∧ pure 216 = true ∧ pure 217 = true ∧ pure 218 = true ∧ pure 227 = true ∧ pure 228 = true ∧ pure 229 = false ∧ pure 232 = false ∧ pure 233 = true ∧ pure 234 = true ∧ pure 235 = true ∧ pure 244 = true ∧ pure 245 = true ∧ pure 246 = true ∧ pure 247 = true ∧ pure 248 = true ∧ pure 249 = true ∧ pure 250 = true ∧ pure 252 = true ∧ pure 253 = false ∧ pure 256 = false ∧ pure 260 = true ∧ pure 268 = true ∧ pure 269 = true ∧ pure 270 = true ∧ pure 271 = true ∧ pure 272 = false ∧ pure 273 = true ∧ pure 274 = true ∧ pure 275 = true ∧ pure 276 = true ∧ pure 280 = true ∧ pure 282 = true ∧ pure 283 = false ∧ pure 284 = true ∧ pure 285 = true ∧ pure 286 = false ∧ pure 287 = false ∧ pure 288 = false ∧ pure 289 = false ∧ pure 290 = false ∧ pure 291 = false ∧ pure 292 = false ∧ pure 293 = false ∧ pure 295 = false ∧ pure 296 = false ∧ pure 297 = false ∧ pure 298 = false ∧ pure 318 = false ∧ pure 320 = false ∧ pure 321 = false ∧ pure 328 = false ∧ pure 331 = false ∧ pure 332 = false ∧ pure 334 = false ∧ pure 336 = true ∧ pure 337 = true ∧ pure 339 = true ∧ pure 340 = true ∧ pure 341 = true ∧ pure 342 = true ∧ pure 346 = false ∧ pure 347 = false ∧ pure 350 = false := ⟨rfl, rfl, rfl, rfl, rfl, rfl, rfl, rfl, rfl, rfl, rfl, rfl, rfl, rfl, rfl, rfl, rfl, rfl, rfl, rfl, rfl, rfl, rfl, rfl, rfl, rfl, rfl, rfl, rfl, rfl, rfl, rfl, rfl, rfl, rfl, rfl, rfl, rfl, rfl, rfl, rfl, rfl, rfl, rfl, rfl, rfl, rfl, rfl, rfl, rfl, rfl, rfl, rfl, rfl, rfl, rfl, rfl, rfl, rfl, rfl, rfl, rfl, rfl, rfl, rfl, rfl, rfl, rfl, rfl, rfl, rfl, rfl, rfl, rfl, rfl, rfl, rfl, rfl, rfl, rfl, rfl, rfl, rfl, rfl, rfl, rfl, rfl, rfl, rfl, rfl, rfl, rfl, rfl, rfl, rfl, rfl, rfl, rfl, rfl, rfl, rfl, rfl, rfl, rfl, rfl, rfl, rfl, rfl, rfl, rfl, rfl, rfl, rfl, rfl, rfl, rfl, rfl, rfl, rfl, rfl, rfl, rfl, rfl, rfl, rfl, rfl, rfl, rfl, rfl, rfl, rfl, rfl, rfl, rfl, rfl, rfl, rfl, rfl, rfl, rfl, rfl, rfl, rfl, rfl, rfl, rfl, rfl, rfl, rfl⟩
theorem Lpure : L.pure = pure := rfl
def AllOk : Nat → List (Option IF) → Prop
  | _, [] => True
  | i, o :: r => OkAt i o ∧ AllOk (i + 1) r
theorem AllOk.get : ∀ (i : Nat) (l : List (Option IF)), AllOk i l → ∀ k, OkAt (i + k) (l[k]?).join
  | i, [], _, k => fun fn h => by simp at h
  | i, o :: r, h, 0 => by simpa using h.1
  | i, o :: r, h, k + 1 => by
    have := AllOk.get (i + 1) r h.2 k
    rw [show i + (k + 1) = i + 1 + k by omega]
    simpa using this
theorem allOk : AllOk 0 table := ⟨okNone 0, okNone 1, okNone 2, okNone 3, okNone 4, ok5, okNone 6, okNone 7, okNone 8, okNone 9, okNone 10, okNone 11, okNone 12, okNone 13, ok14, ok15, okNone 16, ok17, okNone 18, okNone 19, okNone 20, ok21, okNone 22, ok23, ok24, ok25, ok26, okNone 27, okNone 28, ok29, ok30, okNone 31, okNone 32, okNone 33, okNone 34, okNone 35, okNone 36, okNone 37, okNone 38, okNone 39, okNone 40, okNone 41, okNone 42, ok43, okNone 44, okNone 45, okNone 46, okNone 47, okNone 48, okNone 49, okNone 50, okNone 51, okNone 52, okNone 53, okNone 54, okNone 55, okNone 56, okNone 57, okNone 58, okNone 59, okNone 60, ok61, ok62, okNone 63, okNone 64, okNone 65, okNone 66, ok67, ok68, ok69, ok70, ok71, ok72, ok73, ok74, ok75, okNone 76, ok77, ok78, ok79, ok80, ok81, okNone 82, okNone 83, okNone 84, okNone 85, okNone 86, okNone 87, okNone 88, okNone 89, okNone 90, okNone 91, okNone 92, ok93, okNone 94, okNone 95, okNone 96, okNone 97, ok98, okNone 99, okNone 100, okNone 101, ok102, okNone 103, ok104, okNone 105, okNone 106, okNone 107, okNone 108, okNone 109, okNone 110, okNone 111, ok112, okNone 113, okNone 114, okNone 115, okNone 116, okNone 117, okNone 118, okNone 119, okNone 120, ok121, ok122, okNone 123, okNone 124, ok125, ok126, ok127, ok128, ok129, ok130, ok131, ok132, okNone 133, ok134, okNone 135, ok136, ok137, ok138, ok139, ok140, ok141, okNone 142, okNone 143, okNone 144, okNone 145, okNone 146, okNone 147, okNone 148, okNone 149, ok150, ok151, ok152, ok153, okNone 154, okNone 155, okNone 156, okNone 157, okNone 158, okNone 159, okNone 160, okNone 161, ok162, okNone 163, ok164, ok165, ok166, ok167, okNone 168, okNone 169, okNone 170, okNone 171, ok172, ok173, ok174, ok175, ok176, ok177, ok178, ok179, ok180, ok181, okNone 182, okNone 183, okNone 184, okNone 185, okNone 186, ok187, ok188, ok189, ok190, okNone 191, okNone 192, okNone 193, okNone 194, okNone 195, okNone 196, okNone 197, okNone 198, ok199, ok200, ok201, ok202, ok203, ok204, ok205, okNone 206, okNone 207, okNone 208, okNone 209, ok210, ok211, ok212, ok213, ok214, ok215, ok216, ok217, ok218, okNone 219, okNone 220, okNone 221, okNone 222, okNone 223, okNone 224, okNone 225, okNone 226, ok227, ok228, ok229, okNone 230, okNone 231, ok232, ok233, ok234, ok235, okNone 236, okNone 237, okNone 238, okNone 239, okNone 240, okNone 241, okNone 242, okNone 243, ok244, ok245, ok246, ok247, ok248, ok249, ok250, okNone 251, ok252, ok253, okNone 254, okNone 255, ok256, okNone 257, okNone 258, okNone 259, ok260, okNone 261, okNone 262, okNone 263, okNone 264, okNone 265, okNone 266, okNone 267, ok268, ok269, ok270, ok271, ok272, ok273, ok274, ok275, ok276, okNone 277, okNone 278, okNone 279, ok280, okNone 281, ok282, ok283, ok284, ok285, ok286, ok287, ok288, ok289, ok290, ok291, ok292, ok293, okNone 294, ok295, ok296, ok297, ok298, okNone 299, okNone 300, okNone 301, okNone 302, okNone 303, okNone 304, okNone 305, okNone 306, okNone 307, okNone 308, okNone 309, okNone 310, okNone 311, okNone 312, okNone 313, okNone 314, okNone 315, okNone 316, okNone 317, ok318, okNone 319, ok320, ok321, okNone 322, okNone 323, okNone 324, okNone 325, okNone 326, okNone 327, ok328, okNone 329, okNone 330, ok331, ok332, okNone 333, ok334, okNone 335, ok336, ok337, okNone 338, ok339, ok340, ok341, ok342, okNone 343, okNone 344, okNone 345, ok346, ok347, okNone 348, okNone 349, ok350, trivial⟩
theorem fnsOk : FnsOk Tryz.prog G L := fun f fn h => by
  have := AllOk.get 0 table allOk f
  rw [Nat.zero_add] at this
  exact this fn h
theorem mix : Tryz.prog.follows .mixedOrders = true := by kernel_rfl
end Go.Proofs.YtdnjagnechibhaaGreatDoor.Vm
