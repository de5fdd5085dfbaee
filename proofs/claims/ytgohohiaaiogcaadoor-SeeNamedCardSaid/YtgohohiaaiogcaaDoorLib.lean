/- What is proved: each function of the table is the function of that number in the given program. No condition. -/
import Derived.Test.YtgohohiaaiogcaaDoorIr2
import Derived.Test.YtgohohiaaiogcaaDoorChecked
import Derived.KernelRfl
set_option linter.all false
namespace Go.Proofs.YtgohohiaaiogcaaDoor.Vm
open Go Go.Ev
set_option maxRecDepth 100000
def pures : List Nat := [2, 3, 4, 5, 6, 7, 8, 9, 10, 11, 12, 13, 14, 15, 16, 17, 18, 19, 20, 21, 22, 23, 24, 25, 26, 27, 28, 29, 30, 31, 32, 33, 34, 35, 36, 37, 38, 39, 40, 41, 42, 43, 44, 45, 46, 47, 49, 50, 51, 52, 57, 59, 60, 61, 62, 65, 66, 67, 68, 69, 70, 71, 72, 73, 76, 77, 78, 80, 82, 83, 84, 86, 87, 88, 89, 91, 92, 95, 96, 98, 107, 108, 110, 111, 112, 113, 114, 115, 116, 117, 118, 119, 121, 125, 152]
def pure (f : FuncId) : Bool := pures.elem f
def table : List (Option IF) := [none, none, none, none, none, none, none, none, none, none, none, none, none, none, none, none, some ir16, some ir17, some ir18, none, some ir20, none, some ir22, some ir23, some ir24, none, some ir26, none, some ir28, none, some ir30, none, some ir32, none, some ir34, none, some ir36, none, some ir38, none, some ir40, none, some ir42, none, some ir44, some ir45, none, none, some ir48, some ir49, none, none, some ir52, none, some ir54, none, some ir56, some ir57, some ir58, some ir59, some ir60, some ir61, some ir62, some ir63, some ir64, some ir65, some ir66, some ir67, none, none, none, none, some ir72, none, some ir74, some ir75, none, none, none, some ir79, none, some ir81, none, none, some ir84, none, some ir86, some ir87, none, some ir89, some ir90, some ir91, some ir92, some ir93, some ir94, none, some ir96, some ir97, some ir98, some ir99, none, none, none, none, none, none, none, some ir107, some ir108, some ir109, none, none, none, none, none, some ir115, none, none, some ir118, some ir119, none, none, none, none, none, none, none, none, none, none, none, none, none, none, none, none, none, none, none, none, none, none, none, none, none, some ir145, some ir146]
def L : Lib := { fns := fun f => (table[f]?).join, pure := pure }
def G (g : Nat) : List Nat := kept [(1, [0, 1, 56, 2, 57, 49, 28, 3, 61, 58, 42, 50, 38, 29, 17, 4, 62, 47, 59, 36, 45, 43, 51, 22, 53, 39, 33, 30, 24, 18, 12, 5, 63, 55, 48, 27, 60, 41, 37, 16, 46, 35, 44, 21, 52, 32, 23, 11, 54, 26, 40, 15, 34, 20, 31, 10, 25, 14, 19, 9, 13, 8, 7, 6])] g
def okKeep (l : List (Nat × List Nat)) : Bool := l.all fun x => decide (x.1 < glKey) || x.2 == G (x.1 - glKey)
theorem okKeep_ok {l : List (Nat × List Nat)} (h : okKeep l = true) (g : Nat) (hne : kept l (glKey + g) ≠ []) : kept l (glKey + g) = G g := by
  unfold kept at hne ⊢
  cases hf : l.find? (fun x => x.1 == glKey + g) with
  | none => simp [hf] at hne
  | some x =>
    have hm := List.mem_of_find?_eq_some hf
    have he : x.1 = glKey + g := by simpa using List.find?_some hf
    have := (List.all_eq_true.1 h) x hm
    simp only [Bool.or_eq_true, decide_eq_true_eq, beq_iff_eq, he] at this
    rcases this with h1 | h1
    · omega
    · rw [Nat.add_sub_cancel_left] at h1; exact h1
def OkAt (f : FuncId) (o : Option IF) : Prop := ∀ fn, o = some fn → ∃ keep : Nat → List Tmp, (∀ g, keep (glKey + g) ≠ [] → keep (glKey + g) = G g) ∧ compF Tryd.prog pure keep f = some fn
theorem okNone (f : FuncId) : OkAt f none := fun fn h => by simp at h
theorem okSome {f : FuncId} {fn : IF} (l : List (Nat × List Nat)) (h : compF Tryd.prog pure (kept l) f = some fn) (hk : okKeep l = true) : OkAt f (some fn) := fun fn' h' => ⟨kept l, okKeep_ok hk, by rw [h, ← h']⟩
theorem ok16 : OkAt 16 (some ir16) := okSome [(0, [3, 5, 6, 37, 38]), (2, [5, 6, 9, 71, 72, 73, 3000000]), (4, [5, 6, 9, 143, 144, 145]), (6, [5, 6, 9, 22, 143, 144, 145, 149, 150, 151, 3000000]), (8, [6, 28, 232, 233, 234]), (1700014, [1]), (1700032, [1]), (1000018, [9]), (1000035, [22])] (by kernel_rfl) (by kernel_rfl)
theorem ok17 : OkAt 17 (some ir17) := okSome [] (by kernel_rfl) (by kernel_rfl)
theorem ok18 : OkAt 18 (some ir18) := okSome [] (by kernel_rfl) (by kernel_rfl)
theorem ok20 : OkAt 20 (some ir20) := okSome [(0, [4, 6, 18, 19, 3000000]), (2000000, [1]), (1000012, [6])] (by kernel_rfl) (by kernel_rfl)
theorem ok22 : OkAt 22 (some ir22) := okSome [(0, [0, 1, 5])] (by kernel_rfl) (by kernel_rfl)
theorem ok23 : OkAt 23 (some ir23) := okSome [(0, [0, 1, 5])] (by kernel_rfl) (by kernel_rfl)
theorem ok24 : OkAt 24 (some ir24) := okSome [(1, [1, 20, 21, 22])] (by kernel_rfl) (by kernel_rfl)
theorem ok26 : OkAt 26 (some ir26) := okSome [] (by kernel_rfl) (by kernel_rfl)
theorem ok28 : OkAt 28 (some ir28) := okSome [(1000008, [6])] (by kernel_rfl) (by kernel_rfl)
theorem ok30 : OkAt 30 (some ir30) := okSome [(1, [1, 5, 7, 32, 33, 34]), (4, [5, 10, 64, 65, 66])] (by kernel_rfl) (by kernel_rfl)
theorem ok32 : OkAt 32 (some ir32) := okSome [(2, [2, 8, 11]), (4, [2, 8, 11, 12, 13, 72, 73, 74]), (6, [2, 8, 11, 16, 17])] (by kernel_rfl) (by kernel_rfl)
theorem ok34 : OkAt 34 (some ir34) := okSome [(0, [4, 6, 7, 26, 27]), (2, [4, 6, 7, 26, 27, 32, 33, 34]), (4, [4, 6, 7, 8, 10, 26, 27, 32, 33, 34, 51, 52, 53]), (1000022, [6]), (2000001, [79])] (by kernel_rfl) (by kernel_rfl)
theorem ok36 : OkAt 36 (some ir36) := okSome [] (by kernel_rfl) (by kernel_rfl)
theorem ok38 : OkAt 38 (some ir38) := okSome [] (by kernel_rfl) (by kernel_rfl)
theorem ok40 : OkAt 40 (some ir40) := okSome [(0, [4, 6, 7, 20, 21, 22])] (by kernel_rfl) (by kernel_rfl)
theorem ok42 : OkAt 42 (some ir42) := okSome [] (by kernel_rfl) (by kernel_rfl)
theorem ok44 : OkAt 44 (some ir44) := okSome [(0, [0, 1, 5])] (by kernel_rfl) (by kernel_rfl)
theorem ok45 : OkAt 45 (some ir45) := okSome [(0, [4, 5, 21, 22, 23])] (by kernel_rfl) (by kernel_rfl)
theorem ok48 : OkAt 48 (some ir48) := okSome [(0, [0, 1, 9, 10, 11])] (by kernel_rfl) (by kernel_rfl)
theorem ok49 : OkAt 49 (some ir49) := okSome [] (by kernel_rfl) (by kernel_rfl)
theorem ok52 : OkAt 52 (some ir52) := okSome [] (by kernel_rfl) (by kernel_rfl)
theorem ok54 : OkAt 54 (some ir54) := okSome [] (by kernel_rfl) (by kernel_rfl)
theorem ok56 : OkAt 56 (some ir56) := okSome [] (by kernel_rfl) (by kernel_rfl)
theorem ok57 : OkAt 57 (some ir57) := okSome [] (by kernel_rfl) (by kernel_rfl)
theorem ok58 : OkAt 58 (some ir58) := okSome [(2000000, [1])] (by kernel_rfl) (by kernel_rfl)
theorem ok59 : OkAt 59 (some ir59) := okSome [] (by kernel_rfl) (by kernel_rfl)
theorem ok60 : OkAt 60 (some ir60) := okSome [] (by kernel_rfl) (by kernel_rfl)
theorem ok61 : OkAt 61 (some ir61) := okSome [] (by kernel_rfl) (by kernel_rfl)
theorem ok62 : OkAt 62 (some ir62) := okSome [(0, [1, 4, 5, 6])] (by kernel_rfl) (by kernel_rfl)
theorem ok63 : OkAt 63 (some ir63) := okSome [(0, [0, 2, 3])] (by kernel_rfl) (by kernel_rfl)
theorem ok64 : OkAt 64 (some ir64) := okSome [] (by kernel_rfl) (by kernel_rfl)
theorem ok65 : OkAt 65 (some ir65) := okSome [(0, [2, 4, 18, 19, 20])] (by kernel_rfl) (by kernel_rfl)
theorem ok66 : OkAt 66 (some ir66) := okSome [(0, [1, 5, 12, 13, 14])] (by kernel_rfl) (by kernel_rfl)
theorem ok67 : OkAt 67 (some ir67) := okSome [(0, [0, 3])] (by kernel_rfl) (by kernel_rfl)
theorem ok72 : OkAt 72 (some ir72) := okSome [(0, [2, 6, 7, 10, 11, 12])] (by kernel_rfl) (by kernel_rfl)
theorem ok74 : OkAt 74 (some ir74) := okSome [(0, [2, 4, 8, 9])] (by kernel_rfl) (by kernel_rfl)
theorem ok75 : OkAt 75 (some ir75) := okSome [] (by kernel_rfl) (by kernel_rfl)
theorem ok79 : OkAt 79 (some ir79) := okSome [(0, [7, 8])] (by kernel_rfl) (by kernel_rfl)
theorem ok81 : OkAt 81 (some ir81) := okSome [] (by kernel_rfl) (by kernel_rfl)
theorem ok84 : OkAt 84 (some ir84) := okSome [(0, [0, 3, 9, 10, 11]), (2, [6, 25, 26, 27]), (2000000, [1]), (1000015, [6]), (2000001, [97])] (by kernel_rfl) (by kernel_rfl)
theorem ok86 : OkAt 86 (some ir86) := okSome [] (by kernel_rfl) (by kernel_rfl)
theorem ok87 : OkAt 87 (some ir87) := okSome [(0, [0, 3, 7, 8])] (by kernel_rfl) (by kernel_rfl)
theorem ok89 : OkAt 89 (some ir89) := okSome [(4000001, [0, 1, 56, 2, 57, 49, 28, 3, 61, 58, 42, 50, 38, 29, 17, 4, 62, 47, 59, 36, 45, 43, 51, 22, 53, 39, 33, 30, 24, 18, 12, 5, 63, 55, 48, 27, 60, 41, 37, 16, 46, 35, 44, 21, 52, 32, 23, 11, 54, 26, 40, 15, 34, 20, 31, 10, 25, 14, 19, 9, 13, 8, 7, 6])] (by kernel_rfl) (by kernel_rfl)
theorem ok90 : OkAt 90 (some ir90) := okSome [(0, [0, 1, 2, 3, 4, 10, 11])] (by kernel_rfl) (by kernel_rfl)
theorem ok91 : OkAt 91 (some ir91) := okSome [] (by kernel_rfl) (by kernel_rfl)
theorem ok92 : OkAt 92 (some ir92) := okSome [(0, [0, 1, 7, 8])] (by kernel_rfl) (by kernel_rfl)
theorem ok93 : OkAt 93 (some ir93) := okSome [(0, [0, 1, 2, 3, 8, 9])] (by kernel_rfl) (by kernel_rfl)
theorem ok94 : OkAt 94 (some ir94) := okSome [(0, [0, 1, 4, 8]), (1500007, [1])] (by kernel_rfl) (by kernel_rfl)
theorem ok96 : OkAt 96 (some ir96) := okSome [] (by kernel_rfl) (by kernel_rfl)
theorem ok97 : OkAt 97 (some ir97) := okSome [(2000000, [1])] (by kernel_rfl) (by kernel_rfl)
theorem ok98 : OkAt 98 (some ir98) := okSome [] (by kernel_rfl) (by kernel_rfl)
theorem ok99 : OkAt 99 (some ir99) := okSome [(0, [0, 1, 2, 3, 8]), (2, [0, 1, 2, 3, 8, 9])] (by kernel_rfl) (by kernel_rfl)
theorem ok107 : OkAt 107 (some ir107) := okSome [] (by kernel_rfl) (by kernel_rfl)
theorem ok108 : OkAt 108 (some ir108) := okSome [] (by kernel_rfl) (by kernel_rfl)
theorem ok109 : OkAt 109 (some ir109) := okSome [(0, [0, 1, 2, 6]), (2, [0, 1, 2, 6, 7])] (by kernel_rfl) (by kernel_rfl)
theorem ok115 : OkAt 115 (some ir115) := okSome [] (by kernel_rfl) (by kernel_rfl)
theorem ok118 : OkAt 118 (some ir118) := okSome [] (by kernel_rfl) (by kernel_rfl)
theorem ok119 : OkAt 119 (some ir119) := okSome [] (by kernel_rfl) (by kernel_rfl)
theorem ok145 : OkAt 145 (some ir145) := okSome [(2000001, [58])] (by kernel_rfl) (by kernel_rfl)
theorem ok146 : OkAt 146 (some ir146) := okSome [(0, [0, 1, 13, 14, 15])] (by kernel_rfl) (by kernel_rfl)
theorem pus : pure 16 = true ∧ pure 17 = true ∧ pure 18 = true ∧ pure 20 = true ∧ pure 22 = true ∧ pure 23 = true ∧ pure 24 = true ∧ pure 26 = true ∧ pure 28 = true ∧ pure 30 = true ∧ pure 32 = true ∧ pure 34 = true ∧ pure 36 = true ∧ pure 38 = true ∧ pure 40 = true ∧ pure 42 = true ∧ pure 44 = true ∧ pure 45 = true ∧ pure 48 = false ∧ pure 49 = true ∧ pure 52 = true ∧ pure 54 = false ∧ pure 56 = false ∧ pure 57 = true ∧ pure 58 = false ∧ pure 59 = true ∧ pure 60 = true ∧ pure 61 = true ∧ pure 62 = true ∧ pure 63 = false ∧ pure 64 = false ∧ pure 65 = true ∧ pure 66 = true ∧ pure 67 = true ∧ pure 72 = true ∧ pure 74 = false ∧ pure 75 = false ∧ pure 79 = false ∧ pure 81 = false ∧ pure 84 = true ∧ pure 86 = true ∧ pure 87 = true ∧ pure 89 = true ∧ pure 90 = false ∧ pure 91 = true ∧ pure 92 = true ∧ pure 93 = false ∧ pure 94 = false ∧ pure 96 = true ∧ pure 97 = false ∧ pure 98 = true ∧ pure 99 = false ∧ pure 107 = true ∧ pure 108 = true ∧ pure 109 = false ∧ pure 115 = true ∧ pure 118 = true ∧ pure 119 = true ∧ pure 145 = false ∧ pure 146 = false := ⟨rfl, rfl, rfl, rfl, rfl, rfl, rfl, rfl, rfl, rfl, rfl, rfl, rfl, rfl, rfl, rfl, rfl, rfl, rfl, rfl, rfl, rfl, rfl, rfl, rfl, rfl, rfl, rfl, rfl, rfl, rfl, rfl, rfl, rfl, rfl, rfl, rfl, rfl, rfl, rfl, rfl, rfl, rfl, rfl, rfl, rfl, rfl, rfl, rfl, rfl, rfl, rfl, rfl, rfl, rfl, rfl, rfl, rfl, rfl, rfl⟩
theorem Lpure : L.pure = pure := rfl
def AllOk : Nat → List (Option IF) → Prop
  | _, [] => True
  | i, o :: r => OkAt i o ∧ AllOk (i + 1) r
theorem AllOk.get : ∀ (i : Nat) (l : List (Option IF)), AllOk i l → ∀ k, OkAt (i + k) (l[k]?).join
  | i, [], _, k => fun fn h => by simp at h
  | i, o :: r, h, 0 => by simpa using h.1
  | i, o :: r, h, k + 1 => by
    have := AllOk.get (i + 1) r h.2 k
    rw [show i + (k + 1) = i + 1 + k by omega]
    simpa using this
theorem allOk : AllOk 0 table := ⟨okNone 0, okNone 1, okNone 2, okNone 3, okNone 4, okNone 5, okNone 6, okNone 7, okNone 8, okNone 9, okNone 10, okNone 11, okNone 12, okNone 13, okNone 14, okNone 15, ok16, ok17, ok18, okNone 19, ok20, okNone 21, ok22, ok23, ok24, okNone 25, ok26, okNone 27, ok28, okNone 29, ok30, okNone 31, ok32, okNone 33, ok34, okNone 35, ok36, okNone 37, ok38, okNone 39, ok40, okNone 41, ok42, okNone 43, ok44, ok45, okNone 46, okNone 47, ok48, ok49, okNone 50, okNone 51, ok52, okNone 53, ok54, okNone 55, ok56, ok57, ok58, ok59, ok60, ok61, ok62, ok63, ok64, ok65, ok66, ok67, okNone 68, okNone 69, okNone 70, okNone 71, ok72, okNone 73, ok74, ok75, okNone 76, okNone 77, okNone 78, ok79, okNone 80, ok81, okNone 82, okNone 83, ok84, okNone 85, ok86, ok87, okNone 88, ok89, ok90, ok91, ok92, ok93, ok94, okNone 95, ok96, ok97, ok98, ok99, okNone 100, okNone 101, okNone 102, okNone 103, okNone 104, okNone 105, okNone 106, ok107, ok108, ok109, okNone 110, okNone 111, okNone 112, okNone 113, okNone 114, ok115, okNone 116, okNone 117, ok118, ok119, okNone 120, okNone 121, okNone 122, okNone 123, okNone 124, okNone 125, okNone 126, okNone 127, okNone 128, okNone 129, okNone 130, okNone 131, okNone 132, okNone 133, okNone 134, okNone 135, okNone 136, okNone 137, okNone 138, okNone 139, okNone 140, okNone 141, okNone 142, okNone 143, okNone 144, ok145, ok146, trivial⟩
theorem libOk : LibOk Tryd.prog G L := fun f fn h => by
  have := AllOk.get 0 table allOk f
  rw [Nat.zero_add] at this
  exact this fn h
theorem mix : Tryd.prog.follows .mixedOrders = true := by kernel_rfl
end Go.Proofs.YtgohohiaaiogcaaDoor.Vm
