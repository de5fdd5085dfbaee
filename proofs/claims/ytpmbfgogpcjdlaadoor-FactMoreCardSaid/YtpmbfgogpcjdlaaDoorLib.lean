/- What is proved: each function of the table is the function of that number in the given program. No condition. -/
import Derived.Test.YtpmbfgogpcjdlaaDoorIr1
import Derived.Test.YtpmbfgogpcjdlaaDoorChecked
import Derived.KernelRfl
set_option linter.all false
namespace Go.Proofs.YtpmbfgogpcjdlaaDoor.Vm
open Go Go.Ev
set_option maxRecDepth 100000
def pures : List Nat := [2, 3, 4, 5, 6, 7, 8, 9, 10, 11, 12, 13, 14, 15, 16, 17, 18, 19, 20, 21, 22, 23, 24, 25, 26, 27, 28, 29, 30, 31, 32, 33, 34, 35, 36, 37, 38, 39, 40, 41, 42, 43, 45, 46, 49, 50, 51, 52, 53, 54, 55, 56, 57, 61, 62, 65, 68, 69, 70, 72, 73, 74, 75, 76, 77, 78, 79, 80, 81, 82, 83, 84, 85, 86, 87, 88, 89, 90, 91, 92, 93, 94, 101, 102, 104, 105, 106, 108, 109, 110, 111, 113, 114, 115, 118, 119, 120, 121, 122, 123, 124, 125, 126, 127, 136, 137, 146, 147, 180]
def pure (f : FuncId) : Bool := pures.elem f
def table : List (Option IF) := [none, none, none, none, none, none, none, none, none, none, none, some ir11, none, none, none, none, some ir16, some ir17, none, some ir19, none, some ir21, some ir22, none, some ir24, none, some ir26, none, some ir28, none, some ir30, none, some ir32, none, some ir34, some ir35, none, some ir37, none, some ir39, some ir40, none, some ir42, none, some ir44, some ir45, none, none, some ir48, none, none, some ir51, some ir52, some ir53, some ir54, none, none, none, some ir58, some ir59, some ir60, none, none, none, none, none, none, none, none, some ir69, none, none, some ir72, none, none, none, some ir76, none, none, some ir79, none, some ir81, some ir82, some ir83, none, none, some ir86, some ir87, none, some ir89, some ir90, none, some ir92, none, none, some ir95, none, none, some ir98, none, none, none, some ir102, none, some ir104, none, some ir106, some ir107, some ir108, some ir109, some ir110, some ir111, some ir112, none, none, some ir115, none, none, none, none, none, none, none, none, none, none, none, some ir127, none, none, none, none, none, none, none, none, some ir136, some ir137]
def L : Lib := { fns := fun f => (table[f]?).join, pure := pure }
def G (g : Nat) : List Nat := kept [(1, [0, 1, 56, 2, 57, 49, 28, 3, 61, 58, 42, 50, 38, 29, 17, 4, 62, 47, 59, 36, 45, 43, 51, 22, 53, 39, 33, 30, 24, 18, 12, 5, 63, 55, 48, 27, 60, 41, 37, 16, 46, 35, 44, 21, 52, 32, 23, 11, 54, 26, 40, 15, 34, 20, 31, 10, 25, 14, 19, 9, 13, 8, 7, 6])] g
def okKeep (l : List (Nat × List Nat)) : Bool := l.all fun x => decide (x.1 < glKey) || x.2 == G (x.1 - glKey)
theorem okKeep_ok {l : List (Nat × List Nat)} (h : okKeep l = true) (g : Nat) (hne : kept l (glKey + g) ≠ []) : kept l (glKey + g) = G g := by
  unfold kept at hne ⊢
  cases hf : l.find? (fun x => x.1 == glKey + g) with
  | none => simp [hf] at hne
  | some x =>
    have hm := List.mem_of_find?_eq_some hf
    have he : x.1 = glKey + g := by simpa using List.find?_some hf
    have := (List.all_eq_true.1 h) x hm
    simp only [Bool.or_eq_true, decide_eq_true_eq, beq_iff_eq, he] at this
    rcases this with h1 | h1
    · omega
    · rw [Nat.add_sub_cancel_left] at h1; exact h1
def OkAt (f : FuncId) (o : Option IF) : Prop := ∀ fn, o = some fn → ∃ keep : Nat → List Tmp, (∀ g, keep (glKey + g) ≠ [] → keep (glKey + g) = G g) ∧ compF Tryd.prog pure keep f = some fn
theorem okNone (f : FuncId) : OkAt f none := fun fn h => by simp at h
theorem okSome {f : FuncId} {fn : IF} (l : List (Nat × List Nat)) (h : compF Tryd.prog pure (kept l) f = some fn) (hk : okKeep l = true) : OkAt f (some fn) := fun fn' h' => ⟨kept l, okKeep_ok hk, by rw [h, ← h']⟩
theorem ok11 : OkAt 11 (some ir11) := okSome [(1000007, [7]), (2000001, [44, 60])] (by kernel_rfl) (by kernel_rfl)
theorem ok16 : OkAt 16 (some ir16) := okSome [] (by kernel_rfl) (by kernel_rfl)
theorem ok17 : OkAt 17 (some ir17) := okSome [] (by kernel_rfl) (by kernel_rfl)
theorem ok19 : OkAt 19 (some ir19) := okSome [] (by kernel_rfl) (by kernel_rfl)
theorem ok21 : OkAt 21 (some ir21) := okSome [(0, [0, 1, 5])] (by kernel_rfl) (by kernel_rfl)
theorem ok22 : OkAt 22 (some ir22) := okSome [(1, [1, 20, 21, 22])] (by kernel_rfl) (by kernel_rfl)
theorem ok24 : OkAt 24 (some ir24) := okSome [(0, [2, 6, 7, 15, 16, 17])] (by kernel_rfl) (by kernel_rfl)
theorem ok26 : OkAt 26 (some ir26) := okSome [] (by kernel_rfl) (by kernel_rfl)
theorem ok28 : OkAt 28 (some ir28) := okSome [] (by kernel_rfl) (by kernel_rfl)
theorem ok30 : OkAt 30 (some ir30) := okSome [] (by kernel_rfl) (by kernel_rfl)
theorem ok32 : OkAt 32 (some ir32) := okSome [(0, [2, 6, 7, 27, 28, 29])] (by kernel_rfl) (by kernel_rfl)
theorem ok34 : OkAt 34 (some ir34) := okSome [(0, [0, 1, 5])] (by kernel_rfl) (by kernel_rfl)
theorem ok35 : OkAt 35 (some ir35) := okSome [] (by kernel_rfl) (by kernel_rfl)
theorem ok37 : OkAt 37 (some ir37) := okSome [(0, [1, 5, 24, 25, 26]), (2, [8, 9, 10, 47, 48]), (4, [8, 9, 10, 12, 13, 47, 48])] (by kernel_rfl) (by kernel_rfl)
theorem ok39 : OkAt 39 (some ir39) := okSome [(0, [0, 1, 5])] (by kernel_rfl) (by kernel_rfl)
theorem ok40 : OkAt 40 (some ir40) := okSome [] (by kernel_rfl) (by kernel_rfl)
theorem ok42 : OkAt 42 (some ir42) := okSome [] (by kernel_rfl) (by kernel_rfl)
theorem ok44 : OkAt 44 (some ir44) := okSome [(0, [4, 5, 23, 24, 25, 3000000]), (2000000, [1]), (2000003, [1]), (2000001, [2000076])] (by kernel_rfl) (by kernel_rfl)
theorem ok45 : OkAt 45 (some ir45) := okSome [(0, [5, 12, 13, 14])] (by kernel_rfl) (by kernel_rfl)
theorem ok48 : OkAt 48 (some ir48) := okSome [(0, [0, 3, 4])] (by kernel_rfl) (by kernel_rfl)
theorem ok51 : OkAt 51 (some ir51) := okSome [] (by kernel_rfl) (by kernel_rfl)
theorem ok52 : OkAt 52 (some ir52) := okSome [(0, [1, 4, 5, 6])] (by kernel_rfl) (by kernel_rfl)
theorem ok53 : OkAt 53 (some ir53) := okSome [] (by kernel_rfl) (by kernel_rfl)
theorem ok54 : OkAt 54 (some ir54) := okSome [] (by kernel_rfl) (by kernel_rfl)
theorem ok58 : OkAt 58 (some ir58) := okSome [(0, [0, 1, 5, 6])] (by kernel_rfl) (by kernel_rfl)
theorem ok59 : OkAt 59 (some ir59) := okSome [] (by kernel_rfl) (by kernel_rfl)
theorem ok60 : OkAt 60 (some ir60) := okSome [] (by kernel_rfl) (by kernel_rfl)
theorem ok69 : OkAt 69 (some ir69) := okSome [(0, [0, 1, 9, 10, 11])] (by kernel_rfl) (by kernel_rfl)
theorem ok72 : OkAt 72 (some ir72) := okSome [(0, [1, 4, 5, 10, 11])] (by kernel_rfl) (by kernel_rfl)
theorem ok76 : OkAt 76 (some ir76) := okSome [] (by kernel_rfl) (by kernel_rfl)
theorem ok79 : OkAt 79 (some ir79) := okSome [] (by kernel_rfl) (by kernel_rfl)
theorem ok81 : OkAt 81 (some ir81) := okSome [(0, [1, 3, 4, 5, 17, 18, 3000000]), (2, [1, 3, 4, 5, 6, 7, 17, 18, 22, 23, 24]), (4, [1, 3, 4, 5, 6, 7, 10, 11, 17, 18, 50, 51]), (1000021, [11])] (by kernel_rfl) (by kernel_rfl)
theorem ok82 : OkAt 82 (some ir82) := okSome [(0, [1, 5, 8, 9, 10])] (by kernel_rfl) (by kernel_rfl)
theorem ok83 : OkAt 83 (some ir83) := okSome [(0, [1, 7, 27, 28, 29])] (by kernel_rfl) (by kernel_rfl)
theorem ok86 : OkAt 86 (some ir86) := okSome [(0, [0, 1, 6, 7, 8])] (by kernel_rfl) (by kernel_rfl)
theorem ok87 : OkAt 87 (some ir87) := okSome [(0, [1, 3, 11, 12, 13]), (2, [1, 3, 6, 7, 21]), (1000017, [6])] (by kernel_rfl) (by kernel_rfl)
theorem ok89 : OkAt 89 (some ir89) := okSome [(0, [2, 3, 7, 8, 9])] (by kernel_rfl) (by kernel_rfl)
theorem ok90 : OkAt 90 (some ir90) := okSome [] (by kernel_rfl) (by kernel_rfl)
theorem ok92 : OkAt 92 (some ir92) := okSome [(0, [1, 7, 9, 29, 30, 31])] (by kernel_rfl) (by kernel_rfl)
theorem ok95 : OkAt 95 (some ir95) := okSome [(0, [0, 1, 7, 8])] (by kernel_rfl) (by kernel_rfl)
theorem ok98 : OkAt 98 (some ir98) := okSome [] (by kernel_rfl) (by kernel_rfl)
theorem ok102 : OkAt 102 (some ir102) := okSome [] (by kernel_rfl) (by kernel_rfl)
theorem ok104 : OkAt 104 (some ir104) := okSome [(0, [0, 3])] (by kernel_rfl) (by kernel_rfl)
theorem ok106 : OkAt 106 (some ir106) := okSome [(0, [0, 3, 7, 8])] (by kernel_rfl) (by kernel_rfl)
theorem ok107 : OkAt 107 (some ir107) := okSome [] (by kernel_rfl) (by kernel_rfl)
theorem ok108 : OkAt 108 (some ir108) := okSome [] (by kernel_rfl) (by kernel_rfl)
theorem ok109 : OkAt 109 (some ir109) := okSome [(0, [6, 13, 14, 15])] (by kernel_rfl) (by kernel_rfl)
theorem ok110 : OkAt 110 (some ir110) := okSome [] (by kernel_rfl) (by kernel_rfl)
theorem ok111 : OkAt 111 (some ir111) := okSome [] (by kernel_rfl) (by kernel_rfl)
theorem ok112 : OkAt 112 (some ir112) := okSome [(0, [0, 1, 2, 3, 4, 5, 9, 23, 24, 25]), (2, [0, 1, 3, 4, 5, 12, 52, 53]), (2000000, [1]), (3000016, [12]), (3000019, [12])] (by kernel_rfl) (by kernel_rfl)
theorem ok115 : OkAt 115 (some ir115) := okSome [(4000001, [0, 1, 56, 2, 57, 49, 28, 3, 61, 58, 42, 50, 38, 29, 17, 4, 62, 47, 59, 36, 45, 43, 51, 22, 53, 39, 33, 30, 24, 18, 12, 5, 63, 55, 48, 27, 60, 41, 37, 16, 46, 35, 44, 21, 52, 32, 23, 11, 54, 26, 40, 15, 34, 20, 31, 10, 25, 14, 19, 9, 13, 8, 7, 6])] (by kernel_rfl) (by kernel_rfl)
theorem ok127 : OkAt 127 (some ir127) := okSome [] (by kernel_rfl) (by kernel_rfl)
theorem ok136 : OkAt 136 (some ir136) := okSome [] (by kernel_rfl) (by kernel_rfl)
theorem ok137 : OkAt 137 (some ir137) := okSome [] (by kernel_rfl) (by kernel_rfl)
theorem pus : pure 11 = true ∧ pure 16 = true ∧ pure 17 = true ∧ pure 19 = true ∧ pure 21 = true ∧ pure 22 = true ∧ pure 24 = true ∧ pure 26 = true ∧ pure 28 = true ∧ pure 30 = true ∧ pure 32 = true ∧ pure 34 = true ∧ pure 35 = true ∧ pure 37 = true ∧ pure 39 = true ∧ pure 40 = true ∧ pure 42 = true ∧ pure 44 = false ∧ pure 45 = true ∧ pure 48 = false ∧ pure 51 = true ∧ pure 52 = true ∧ pure 53 = true ∧ pure 54 = true ∧ pure 58 = false ∧ pure 59 = false ∧ pure 60 = false ∧ pure 69 = true ∧ pure 72 = true ∧ pure 76 = true ∧ pure 79 = true ∧ pure 81 = true ∧ pure 82 = true ∧ pure 83 = true ∧ pure 86 = true ∧ pure 87 = true ∧ pure 89 = true ∧ pure 90 = true ∧ pure 92 = true ∧ pure 95 = false ∧ pure 98 = false ∧ pure 102 = true ∧ pure 104 = true ∧ pure 106 = true ∧ pure 107 = false ∧ pure 108 = true ∧ pure 109 = true ∧ pure 110 = true ∧ pure 111 = true ∧ pure 112 = false ∧ pure 115 = true ∧ pure 127 = true ∧ pure 136 = true ∧ pure 137 = true := ⟨rfl, rfl, rfl, rfl, rfl, rfl, rfl, rfl, rfl, rfl, rfl, rfl, rfl, rfl, rfl, rfl, rfl, rfl, rfl, rfl, rfl, rfl, rfl, rfl, rfl, rfl, rfl, rfl, rfl, rfl, rfl, rfl, rfl, rfl, rfl, rfl, rfl, rfl, rfl, rfl, rfl, rfl, rfl, rfl, rfl, rfl, rfl, rfl, rfl, rfl, rfl, rfl, rfl, rfl⟩
theorem Lpure : L.pure = pure := rfl
def AllOk : Nat → List (Option IF) → Prop
  | _, [] => True
  | i, o :: r => OkAt i o ∧ AllOk (i + 1) r
theorem AllOk.get : ∀ (i : Nat) (l : List (Option IF)), AllOk i l → ∀ k, OkAt (i + k) (l[k]?).join
  | i, [], _, k => fun fn h => by simp at h
  | i, o :: r, h, 0 => by simpa using h.1
  | i, o :: r, h, k + 1 => by
    have := AllOk.get (i + 1) r h.2 k
    rw [show i + (k + 1) = i + 1 + k by omega]
    simpa using this
theorem allOk : AllOk 0 table := ⟨okNone 0, okNone 1, okNone 2, okNone 3, okNone 4, okNone 5, okNone 6, okNone 7, okNone 8, okNone 9, okNone 10, ok11, okNone 12, okNone 13, okNone 14, okNone 15, ok16, ok17, okNone 18, ok19, okNone 20, ok21, ok22, okNone 23, ok24, okNone 25, ok26, okNone 27, ok28, okNone 29, ok30, okNone 31, ok32, okNone 33, ok34, ok35, okNone 36, ok37, okNone 38, ok39, ok40, okNone 41, ok42, okNone 43, ok44, ok45, okNone 46, okNone 47, ok48, okNone 49, okNone 50, ok51, ok52, ok53, ok54, okNone 55, okNone 56, okNone 57, ok58, ok59, ok60, okNone 61, okNone 62, okNone 63, okNone 64, okNone 65, okNone 66, okNone 67, okNone 68, ok69, okNone 70, okNone 71, ok72, okNone 73, okNone 74, okNone 75, ok76, okNone 77, okNone 78, ok79, okNone 80, ok81, ok82, ok83, okNone 84, okNone 85, ok86, ok87, okNone 88, ok89, ok90, okNone 91, ok92, okNone 93, okNone 94, ok95, okNone 96, okNone 97, ok98, okNone 99, okNone 100, okNone 101, ok102, okNone 103, ok104, okNone 105, ok106, ok107, ok108, ok109, ok110, ok111, ok112, okNone 113, okNone 114, ok115, okNone 116, okNone 117, okNone 118, okNone 119, okNone 120, okNone 121, okNone 122, okNone 123, okNone 124, okNone 125, okNone 126, ok127, okNone 128, okNone 129, okNone 130, okNone 131, okNone 132, okNone 133, okNone 134, okNone 135, ok136, ok137, trivial⟩
theorem fnsOk : FnsOk Tryd.prog G L := fun f fn h => by
  have := AllOk.get 0 table allOk f
  rw [Nat.zero_add] at this
  exact this fn h
theorem mix : Tryd.prog.follows .mixedOrders = true := by kernel_rfl
theorem libOk : LibOk Tryd.prog G L := ⟨fnsOk, primOk_none fun _ _ _ => rfl⟩
end Go.Proofs.YtpmbfgogpcjdlaaDoor.Vm
