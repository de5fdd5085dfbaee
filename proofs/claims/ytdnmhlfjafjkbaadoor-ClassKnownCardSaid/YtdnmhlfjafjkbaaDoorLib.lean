/- What is proved: each function of the table is the function of that number in the given program. No condition. -/
import Derived.Test.YtdnmhlfjafjkbaaDoorIr2
import Derived.Test.YtdnmhlfjafjkbaaDoorChecked
import Derived.KernelRfl
set_option linter.all false
namespace Go.Proofs.YtdnmhlfjafjkbaaDoor.Vm
open Go Go.Ev
set_option maxRecDepth 100000
def pures : List Nat := [2, 3, 4, 5, 6, 7, 8, 9, 10, 11, 12, 13, 14, 15, 16, 17, 18, 19, 20, 21, 22, 23, 24, 26, 27, 28, 29, 30, 33, 38, 39, 40, 41, 42, 43, 44, 49, 50, 51, 52, 55, 58, 60, 63, 64, 65, 66, 68, 71, 72, 73, 84, 85, 90, 117]
def pure (f : FuncId) : Bool := pures.elem f
def table : List (Option IF) := [none, none, none, some ir3, some ir4, some ir5, some ir6, some ir7, some ir8, some ir9, some ir10, some ir11, some ir12, some ir13, some ir14, some ir15, some ir16, some ir17, some ir18, some ir19, some ir20, some ir21, some ir22, some ir23, some ir24, some ir25, some ir26, some ir27, some ir28, some ir29, some ir30, some ir31, some ir32, some ir33, some ir34, some ir35, some ir36, some ir37, some ir38, some ir39, some ir40, some ir41, some ir42, some ir43, some ir44, some ir45, some ir46, some ir47, some ir48, some ir49, some ir50, some ir51, some ir52, some ir53, some ir54, some ir55, some ir56, some ir57, some ir58, some ir59, some ir60, some ir61, some ir62, some ir63, some ir64, some ir65, some ir66, some ir67, some ir68, some ir69, some ir70, none, some ir72, some ir73, some ir74, some ir75, some ir76, none, none, none, none, none, none, none, some ir84, some ir85, some ir86, none, some ir88, none, none, none, none, none, some ir94]
def L : Lib := { fns := fun f => (table[f]?).join, pure := pure, prim := primSeq 87 70 }
def G (g : Nat) : List Nat := kept [(1, [0, 1, 56, 2, 57, 49, 28, 3, 61, 58, 42, 50, 38, 29, 17, 4, 62, 47, 59, 36, 45, 43, 51, 22, 53, 39, 33, 30, 24, 18, 12, 5, 63, 55, 48, 27, 60, 41, 37, 16, 46, 35, 44, 21, 52, 32, 23, 11, 54, 26, 40, 15, 34, 20, 31, 10, 25, 14, 19, 9, 13, 8, 7, 6])] g
def okKeep (l : List (Nat × List Nat)) : Bool := l.all fun x => decide (x.1 < glKey) || x.2 == G (x.1 - glKey)
theorem okKeep_ok {l : List (Nat × List Nat)} (h : okKeep l = true) (g : Nat) (hne : kept l (glKey + g) ≠ []) : kept l (glKey + g) = G g := by
  unfold kept at hne ⊢
  cases hf : l.find? (fun x => x.1 == glKey + g) with
  | none => simp [hf] at hne
  | some x =>
    have hm := List.mem_of_find?_eq_some hf
    have he : x.1 = glKey + g := by simpa using List.find?_some hf
    have := (List.all_eq_true.1 h) x hm
    simp only [Bool.or_eq_true, decide_eq_true_eq, beq_iff_eq, he] at this
    rcases this with h1 | h1
    · omega
    · rw [Nat.add_sub_cancel_left] at h1; exact h1
def OkAt (f : FuncId) (o : Option IF) : Prop := ∀ fn, o = some fn → ∃ keep : Nat → List Tmp, (∀ g, keep (glKey + g) ≠ [] → keep (glKey + g) = G g) ∧ compF Tryd.prog pure keep f = some fn
theorem okNone (f : FuncId) : OkAt f none := fun fn h => by simp at h
theorem okSome {f : FuncId} {fn : IF} (l : List (Nat × List Nat)) (h : compF Tryd.prog pure (kept l) f = some fn) (hk : okKeep l = true) : OkAt f (some fn) := fun fn' h' => ⟨kept l, okKeep_ok hk, by rw [h, ← h']⟩
theorem ok3 : OkAt 3 (some ir3) := okSome [] (by kernel_rfl) (by kernel_rfl)
theorem ok4 : OkAt 4 (some ir4) := okSome [(1000004, [6]), (2000001, [25])] (by kernel_rfl) (by kernel_rfl)
theorem ok5 : OkAt 5 (some ir5) := okSome [] (by kernel_rfl) (by kernel_rfl)
theorem ok6 : OkAt 6 (some ir6) := okSome [] (by kernel_rfl) (by kernel_rfl)
theorem ok7 : OkAt 7 (some ir7) := okSome [] (by kernel_rfl) (by kernel_rfl)
theorem ok8 : OkAt 8 (some ir8) := okSome [] (by kernel_rfl) (by kernel_rfl)
theorem ok9 : OkAt 9 (some ir9) := okSome [(2000001, [25, 2000029])] (by kernel_rfl) (by kernel_rfl)
theorem ok10 : OkAt 10 (some ir10) := okSome [(0, [6, 8, 29, 30, 31]), (2, [6, 8, 9, 10, 29, 30, 31, 36, 37, 38]), (4, [8, 13, 60, 61]), (2000001, [25])] (by kernel_rfl) (by kernel_rfl)
theorem ok11 : OkAt 11 (some ir11) := okSome [(0, [0, 4, 6, 8, 29, 30]), (2, [4, 6, 10, 47, 48, 49]), (4, [4, 6, 10, 12, 47, 48, 49, 57, 58, 59]), (3000018, [10]), (2000001, [35])] (by kernel_rfl) (by kernel_rfl)
theorem ok12 : OkAt 12 (some ir12) := okSome [(0, [0, 1, 5])] (by kernel_rfl) (by kernel_rfl)
theorem ok13 : OkAt 13 (some ir13) := okSome [] (by kernel_rfl) (by kernel_rfl)
theorem ok14 : OkAt 14 (some ir14) := okSome [] (by kernel_rfl) (by kernel_rfl)
theorem ok15 : OkAt 15 (some ir15) := okSome [(0, [0, 1, 5])] (by kernel_rfl) (by kernel_rfl)
theorem ok16 : OkAt 16 (some ir16) := okSome [(1, [13, 51, 52, 53]), (1000006, [500005])] (by kernel_rfl) (by kernel_rfl)
theorem ok17 : OkAt 17 (some ir17) := okSome [] (by kernel_rfl) (by kernel_rfl)
theorem ok18 : OkAt 18 (some ir18) := okSome [(1000006, [10]), (2000001, [25])] (by kernel_rfl) (by kernel_rfl)
theorem ok19 : OkAt 19 (some ir19) := okSome [(1, [0, 2, 8, 31, 32, 33]), (4, [2, 12, 13, 61, 62, 63]), (2000001, [25])] (by kernel_rfl) (by kernel_rfl)
theorem ok20 : OkAt 20 (some ir20) := okSome [(0, [0, 6, 8, 9]), (2, [6, 35, 36, 37]), (2000000, [1]), (1000016, [6]), (2000001, [35])] (by kernel_rfl) (by kernel_rfl)
theorem ok21 : OkAt 21 (some ir21) := okSome [] (by kernel_rfl) (by kernel_rfl)
theorem ok22 : OkAt 22 (some ir22) := okSome [] (by kernel_rfl) (by kernel_rfl)
theorem ok23 : OkAt 23 (some ir23) := okSome [(2000001, [25])] (by kernel_rfl) (by kernel_rfl)
theorem ok24 : OkAt 24 (some ir24) := okSome [] (by kernel_rfl) (by kernel_rfl)
theorem ok25 : OkAt 25 (some ir25) := okSome [(1, [0, 6, 7, 27, 28, 29, 3000000]), (3, [0, 6, 7, 9, 27, 28, 29, 36, 37, 38]), (2000000, [1]), (2000001, [2000052])] (by kernel_rfl) (by kernel_rfl)
theorem ok26 : OkAt 26 (some ir26) := okSome [(0, [3, 8, 9, 10])] (by kernel_rfl) (by kernel_rfl)
theorem ok27 : OkAt 27 (some ir27) := okSome [(3000003, [8, 9]), (3000005, [8, 9]), (3000006, [999999]), (1000004, [11]), (2000001, [25])] (by kernel_rfl) (by kernel_rfl)
theorem ok28 : OkAt 28 (some ir28) := okSome [] (by kernel_rfl) (by kernel_rfl)
theorem ok29 : OkAt 29 (some ir29) := okSome [(0, [0, 8, 9, 10])] (by kernel_rfl) (by kernel_rfl)
theorem ok30 : OkAt 30 (some ir30) := okSome [(0, [3, 4])] (by kernel_rfl) (by kernel_rfl)
theorem ok31 : OkAt 31 (some ir31) := okSome [] (by kernel_rfl) (by kernel_rfl)
theorem ok32 : OkAt 32 (some ir32) := okSome [] (by kernel_rfl) (by kernel_rfl)
theorem ok33 : OkAt 33 (some ir33) := okSome [] (by kernel_rfl) (by kernel_rfl)
theorem ok34 : OkAt 34 (some ir34) := okSome [(0, [0, 1, 9, 10, 11])] (by kernel_rfl) (by kernel_rfl)
theorem ok35 : OkAt 35 (some ir35) := okSome [(2000001, [25, 2000029])] (by kernel_rfl) (by kernel_rfl)
theorem ok36 : OkAt 36 (some ir36) := okSome [] (by kernel_rfl) (by kernel_rfl)
theorem ok37 : OkAt 37 (some ir37) := okSome [] (by kernel_rfl) (by kernel_rfl)
theorem ok38 : OkAt 38 (some ir38) := okSome [] (by kernel_rfl) (by kernel_rfl)
theorem ok39 : OkAt 39 (some ir39) := okSome [(0, [3, 4])] (by kernel_rfl) (by kernel_rfl)
theorem ok40 : OkAt 40 (some ir40) := okSome [(0, [0, 1, 4])] (by kernel_rfl) (by kernel_rfl)
theorem ok41 : OkAt 41 (some ir41) := okSome [(0, [0, 1, 7, 8])] (by kernel_rfl) (by kernel_rfl)
theorem ok42 : OkAt 42 (some ir42) := okSome [(0, [1, 2, 7, 10, 11, 12])] (by kernel_rfl) (by kernel_rfl)
theorem ok43 : OkAt 43 (some ir43) := okSome [(0, [2, 3, 6, 7, 8])] (by kernel_rfl) (by kernel_rfl)
theorem ok44 : OkAt 44 (some ir44) := okSome [] (by kernel_rfl) (by kernel_rfl)
theorem ok45 : OkAt 45 (some ir45) := okSome [] (by kernel_rfl) (by kernel_rfl)
theorem ok46 : OkAt 46 (some ir46) := okSome [] (by kernel_rfl) (by kernel_rfl)
theorem ok47 : OkAt 47 (some ir47) := okSome [] (by kernel_rfl) (by kernel_rfl)
theorem ok48 : OkAt 48 (some ir48) := okSome [] (by kernel_rfl) (by kernel_rfl)
theorem ok49 : OkAt 49 (some ir49) := okSome [(1, [3, 6, 44, 45, 46]), (3, [3, 6, 60, 61]), (5, [3, 6, 10, 60, 61, 66, 67]), (7, [3, 6, 11, 90, 91, 92]), (9, [3, 6, 111, 112, 113]), (11, [3, 17, 131, 132, 133]), (13, [3, 17, 18, 19, 131, 132, 133])] (by kernel_rfl) (by kernel_rfl)
theorem ok50 : OkAt 50 (some ir50) := okSome [] (by kernel_rfl) (by kernel_rfl)
theorem ok51 : OkAt 51 (some ir51) := okSome [] (by kernel_rfl) (by kernel_rfl)
theorem ok52 : OkAt 52 (some ir52) := okSome [] (by kernel_rfl) (by kernel_rfl)
theorem ok53 : OkAt 53 (some ir53) := okSome [] (by kernel_rfl) (by kernel_rfl)
theorem ok54 : OkAt 54 (some ir54) := okSome [] (by kernel_rfl) (by kernel_rfl)
theorem ok55 : OkAt 55 (some ir55) := okSome [] (by kernel_rfl) (by kernel_rfl)
theorem ok56 : OkAt 56 (some ir56) := okSome [(0, [0, 1, 7, 8])] (by kernel_rfl) (by kernel_rfl)
theorem ok57 : OkAt 57 (some ir57) := okSome [] (by kernel_rfl) (by kernel_rfl)
theorem ok58 : OkAt 58 (some ir58) := okSome [] (by kernel_rfl) (by kernel_rfl)
theorem ok59 : OkAt 59 (some ir59) := okSome [(0, [0, 1, 7, 8])] (by kernel_rfl) (by kernel_rfl)
theorem ok60 : OkAt 60 (some ir60) := okSome [] (by kernel_rfl) (by kernel_rfl)
theorem ok61 : OkAt 61 (some ir61) := okSome [(0, [0, 1, 2, 6, 7, 8]), (2, [0, 1, 2, 6]), (4, [0, 1, 2, 6, 7, 8])] (by kernel_rfl) (by kernel_rfl)
theorem ok62 : OkAt 62 (some ir62) := okSome [(0, [0, 1, 2, 3, 4, 10, 11])] (by kernel_rfl) (by kernel_rfl)
theorem ok63 : OkAt 63 (some ir63) := okSome [] (by kernel_rfl) (by kernel_rfl)
theorem ok64 : OkAt 64 (some ir64) := okSome [(0, [0, 3, 9, 10, 11]), (2, [6, 25, 26, 27]), (2000000, [1]), (2000001, [86])] (by kernel_rfl) (by kernel_rfl)
theorem ok65 : OkAt 65 (some ir65) := okSome [] (by kernel_rfl) (by kernel_rfl)
theorem ok66 : OkAt 66 (some ir66) := okSome [] (by kernel_rfl) (by kernel_rfl)
theorem ok67 : OkAt 67 (some ir67) := okSome [(0, [0, 1, 5])] (by kernel_rfl) (by kernel_rfl)
theorem ok68 : OkAt 68 (some ir68) := okSome [(0, [0, 3, 7, 8])] (by kernel_rfl) (by kernel_rfl)
theorem ok69 : OkAt 69 (some ir69) := okSome [] (by kernel_rfl) (by kernel_rfl)
theorem ok70 : OkAt 70 (some ir70) := okSome [(0, [0, 5, 6, 7])] (by kernel_rfl) (by kernel_rfl)
theorem ok72 : OkAt 72 (some ir72) := okSome [(4000001, [0, 1, 56, 2, 57, 49, 28, 3, 61, 58, 42, 50, 38, 29, 17, 4, 62, 47, 59, 36, 45, 43, 51, 22, 53, 39, 33, 30, 24, 18, 12, 5, 63, 55, 48, 27, 60, 41, 37, 16, 46, 35, 44, 21, 52, 32, 23, 11, 54, 26, 40, 15, 34, 20, 31, 10, 25, 14, 19, 9, 13, 8, 7, 6])] (by kernel_rfl) (by kernel_rfl)
theorem ok73 : OkAt 73 (some ir73) := okSome [] (by kernel_rfl) (by kernel_rfl)
theorem ok74 : OkAt 74 (some ir74) := okSome [(0, [0, 1, 2, 3, 8]), (2, [0, 1, 2, 3, 8, 9])] (by kernel_rfl) (by kernel_rfl)
theorem ok75 : OkAt 75 (some ir75) := okSome [(0, [0, 1, 4, 10, 11]), (2, [0, 10, 13]), (4, [0, 2, 4, 14, 15]), (6, [0, 14, 17]), (8, [0, 1, 2, 3, 4, 18, 19, 20, 21, 22])] (by kernel_rfl) (by kernel_rfl)
theorem ok76 : OkAt 76 (some ir76) := okSome [(0, [0, 1, 2, 3, 8]), (2, [0, 1, 2, 3, 8, 9])] (by kernel_rfl) (by kernel_rfl)
theorem ok84 : OkAt 84 (some ir84) := okSome [] (by kernel_rfl) (by kernel_rfl)
theorem ok85 : OkAt 85 (some ir85) := okSome [] (by kernel_rfl) (by kernel_rfl)
theorem ok86 : OkAt 86 (some ir86) := okSome [(2000000, [1])] (by kernel_rfl) (by kernel_rfl)
theorem ok88 : OkAt 88 (some ir88) := okSome [(0, [0, 2, 4, 10, 11])] (by kernel_rfl) (by kernel_rfl)
theorem ok94 : OkAt 94 (some ir94) := okSome [(0, [0, 1, 2, 3, 10])] (by kernel_rfl) (by kernel_rfl)
theorem pus : pure 3 = true ∧ pure 4 = true ∧ pure 5 = true ∧ pure 6 = true ∧ pure 7 = true ∧ pure 8 = true ∧ pure 9 = true ∧ pure 10 = true ∧ pure 11 = true ∧ pure 12 = true ∧ pure 13 = true ∧ pure 14 = true ∧ pure 15 = true ∧ pure 16 = true ∧ pure 17 = true ∧ pure 18 = true ∧ pure 19 = true ∧ pure 20 = true ∧ pure 21 = true ∧ pure 22 = true ∧ pure 23 = true ∧ pure 24 = true ∧ pure 25 = false ∧ pure 26 = true ∧ pure 27 = true ∧ pure 28 = true ∧ pure 29 = true ∧ pure 30 = true ∧ pure 31 = false ∧ pure 32 = false ∧ pure 33 = true ∧ pure 34 = false ∧ pure 35 = false ∧ pure 36 = false ∧ pure 37 = false ∧ pure 38 = true ∧ pure 39 = true ∧ pure 40 = true ∧ pure 41 = true ∧ pure 42 = true ∧ pure 43 = true ∧ pure 44 = true ∧ pure 45 = false ∧ pure 46 = false ∧ pure 47 = false ∧ pure 48 = false ∧ pure 49 = true ∧ pure 50 = true ∧ pure 51 = true ∧ pure 52 = true ∧ pure 53 = false ∧ pure 54 = false ∧ pure 55 = true ∧ pure 56 = false ∧ pure 57 = false ∧ pure 58 = true ∧ pure 59 = false ∧ pure 60 = true ∧ pure 61 = false ∧ pure 62 = false ∧ pure 63 = true ∧ pure 64 = true ∧ pure 65 = true ∧ pure 66 = true ∧ pure 67 = false ∧ pure 68 = true ∧ pure 69 = false ∧ pure 70 = false ∧ pure 72 = true ∧ pure 73 = true ∧ pure 74 = false ∧ pure 75 = false ∧ pure 76 = false ∧ pure 84 = true ∧ pure 85 = true ∧ pure 86 = false ∧ pure 88 = false ∧ pure 94 = false := ⟨rfl, rfl, rfl, rfl, rfl, rfl, rfl, rfl, rfl, rfl, rfl, rfl, rfl, rfl, rfl, rfl, rfl, rfl, rfl, rfl, rfl, rfl, rfl, rfl, rfl, rfl, rfl, rfl, rfl, rfl, rfl, rfl, rfl, rfl, rfl, rfl, rfl, rfl, rfl, rfl, rfl, rfl, rfl, rfl, rfl, rfl, rfl, rfl, rfl, rfl, rfl, rfl, rfl, rfl, rfl, rfl, rfl, rfl, rfl, rfl, rfl, rfl, rfl, rfl, rfl, rfl, rfl, rfl, rfl, rfl, rfl, rfl, rfl, rfl, rfl, rfl, rfl, rfl⟩
theorem Lpure : L.pure = pure := rfl
def AllOk : Nat → List (Option IF) → Prop
  | _, [] => True
  | i, o :: r => OkAt i o ∧ AllOk (i + 1) r
theorem AllOk.get : ∀ (i : Nat) (l : List (Option IF)), AllOk i l → ∀ k, OkAt (i + k) (l[k]?).join
  | i, [], _, k => fun fn h => by simp at h
  | i, o :: r, h, 0 => by simpa using h.1
  | i, o :: r, h, k + 1 => by
    have := AllOk.get (i + 1) r h.2 k
    rw [show i + (k + 1) = i + 1 + k by omega]
    simpa using this
theorem allOk : AllOk 0 table := ⟨okNone 0, okNone 1, okNone 2, ok3, ok4, ok5, ok6, ok7, ok8, ok9, ok10, ok11, ok12, ok13, ok14, ok15, ok16, ok17, ok18, ok19, ok20, ok21, ok22, ok23, ok24, ok25, ok26, ok27, ok28, ok29, ok30, ok31, ok32, ok33, ok34, ok35, ok36, ok37, ok38, ok39, ok40, ok41, ok42, ok43, ok44, ok45, ok46, ok47, ok48, ok49, ok50, ok51, ok52, ok53, ok54, ok55, ok56, ok57, ok58, ok59, ok60, ok61, ok62, ok63, ok64, ok65, ok66, ok67, ok68, ok69, ok70, okNone 71, ok72, ok73, ok74, ok75, ok76, okNone 77, okNone 78, okNone 79, okNone 80, okNone 81, okNone 82, okNone 83, ok84, ok85, ok86, okNone 87, ok88, okNone 89, okNone 90, okNone 91, okNone 92, okNone 93, ok94, trivial⟩
theorem fnsOk : FnsOk Tryd.prog G L := fun f fn h => by
  have := AllOk.get 0 table allOk f
  rw [Nat.zero_add] at this
  exact this fn h
theorem mix : Tryd.prog.follows .mixedOrders = true := by kernel_rfl
end Go.Proofs.YtdnmhlfjafjkbaaDoor.Vm
