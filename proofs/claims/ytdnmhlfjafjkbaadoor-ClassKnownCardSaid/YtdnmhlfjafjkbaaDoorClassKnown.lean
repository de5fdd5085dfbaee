/- What is proved: ClassKnown returns true whatever the memory, and leaves all old memory as it was. No condition but the row's own: the two tables of bits start as the text lays them, which the card ties. -/
import Derived.Test.YtdnmhlfjafjkbaaDoorRows
import Derived.Test.YtdnmhlfjafjkbaaDoorCards
import Derived.Test.YtdnmhlfjafjkbaaDoorTie
import Derived.Test.YtdnmhlfjafjkbaaDoorKw
import Derived.Test.YtdnmhlfjafjkbaaDoorK0
import Derived.SevenTiedAt
import Derived.WalkKit
import Derived.ProofKit
import Derived.LaidMore
import Derived.OpenShut
import Derived.Stop.Joined
namespace Go.Proofs.YtdnmhlfjafjkbaaDoor.classKnown
open Go.ChangeShapes Go.WideShapes Go.ChangeAt Go.RowKit Go.Ev
set_option linter.all false
set_option maxRecDepth 100000

theorem own : ownKnob Tryd.prog.godebug = none := by kernel_rfl

theorem answer (vals : List AV) (hl : vals.length = Tryd.f3.params.toList.length) (h : ∀ (j : Nat) t a, Tryd.f3.params.toList[j]? = some t → vals[j]? = some a → ShV Tryd.prog 8 t a) :
    ∃ st, run Vm.L 3 vals ⟨[], []⟩ = some (.v (.bool true), st) := by
  rw [Tryd.params3] at hl h
  match vals, hl with
  | [], _ => exact ⟨_, Vm.c3 _⟩

theorem lifted (os : Os) (started : os.Started) (H : Type) (enc : TypeId × Value → H) :
    ReturnsInHanded {} Tryd.checked os 3 .any (fun w args => (Rows.classKnownSpec.pre enc Tryd.prog Tryd.f3 [] false w args ∧ laidMetH Tryd.prog Vm.laidL w) ∧ sizedMet enc Tryd.prog Tryd.f3 (OpenSpec.ofChange Rows.classKnownSpec) false w args)
      (Rows.classKnownSpec.post enc Tryd.prog Tryd.f3 false true false false) := by
  refine returnsInHanded_of_change_and (C := Tryd.checked) (X := fun w _ => laidMetH Tryd.prog Vm.laidL w) (fun _ _ _ hh h => h.of_heap hh) own started (by kernel_rfl) Tryd.func3
    (ChangeSpec.witness_shaped (enc := enc) (C := Tryd.checked) (os := os) (X := fun w _ => laidMetH Tryd.prog Vm.laidL w) false (World.doorLaid Tryd.prog 19 os) #[] 8 rfl (World.shaped_of_RefB (by kernel_rfl) (by kernel_rfl)) (by kernel_rfl) (by kernel_rfl) (by kernel_rfl) (Vm.door_met os _)) ?_
  intro W base args ds gs before hval hW _ _ hL _
  exact Vm.row_post (os := os) rfl (by rw [Tryd.params3]; kernel_rfl) rfl
    (fun ds h => by
      rw [Tryd.params3] at h
      match ds, h with
      | [], _ => rfl) answer W hL base args ds gs before false true false hval hW

theorem row_holds : Rows.ClassKnownSaid :=
  OpenClaim.holds_of_wide 3 Tryd.f3 rfl rfl rfl rfl rfl rfl rfl ⟨rfl, rfl, rfl, rfl, rfl⟩ rfl rfl rfl rfl rfl (by kernel_rfl) Tryd.func3 (by kernel_rfl)
    (of_decide_eq_true (by kernel_rfl)) (by unfold Func.isWrapper; first | (rw [if_pos (by decide +kernel)]; kernel_rfl) | (rw [if_neg (by decide +kernel)]; exact ⟨rfl, rfl⟩))
    (fun os started H enc _ => lifted os started H enc)

/-- The statement: the tied card. -/
theorem proved : Rows.ClassKnownCardSaid :=
  Claim7.holds_tied_plain_at .later [] [.data, .data] true (true, "260ec1fbed318a998e2b570cfc73cd7f3ae6df9a8f44cdd78e8db74ebc57466d") false
    row_holds (fun _ h => by cases h) (by kernel_rfl) (fun _ h => by cases h) classKnown_row_tie rfl ⟨rfl, rfl⟩ (by kernel_rfl) rfl
    (fun f fn hf hfn => by
      obtain rfl : f = 3 := Option.some.inj ((show Tryd.prog.funcNamed "headword/headwordlaw05.ClassKnown" = some 3 by kernel_rfl).symm.trans hf) |>.symm
      obtain rfl : fn = Tryd.f3 := (Option.some.inj (Tryd.func3.symm.trans hfn)).symm
      exact ⟨by kernel_rfl, fun j t ht => by
        have hm : t ∈ Tryd.f3.params.toList := by simpa using Array.mem_of_getElem? ht
        have hall : (Tryd.f3.params.toList.all fun u => !Tryd.prog.wantsStandIn u) = true := by kernel_rfl
        exact (show Tryd.prog.wantsStandIn t = false by simpa using List.all_eq_true.1 hall t hm)⟩)
    (by kernel_rfl)
#print axioms proved
end Go.Proofs.YtdnmhlfjafjkbaaDoor.classKnown
