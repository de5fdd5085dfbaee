/- What is proved: SeeKnown returns true whatever the memory, and leaves all old memory as it was. No condition but the row's own: the two tables of bits start as the text lays them, which the card ties. -/
import Derived.Test.YtgohohiaaiogcaaDoorRows
import Derived.Test.YtgohohiaaiogcaaDoorCards
import Derived.Test.YtgohohiaaiogcaaDoorTie
import Derived.Test.YtgohohiaaiogcaaDoorSw
import Derived.Test.YtgohohiaaiogcaaDoorS1
import Derived.SevenTiedAt
import Derived.WalkKit
import Derived.ProofKit
import Derived.LaidMore
import Derived.OpenShut
import Derived.Stop.Joined
namespace Go.Proofs.YtgohohiaaiogcaaDoor.seeKnown
open Go.ChangeShapes Go.WideShapes Go.ChangeAt Go.RowKit Go.Ev
set_option linter.all false
set_option maxRecDepth 100000

theorem own : ownKnob Tryd.prog.godebug = none := by kernel_rfl

theorem answer (vals : List AV) (hl : vals.length = Tryd.f15.params.toList.length) (h : ∀ (j : Nat) t a, Tryd.f15.params.toList[j]? = some t → vals[j]? = some a → ShV Tryd.prog 8 t a) :
    ∃ st, run Vm.L 15 vals ⟨[], []⟩ = some (.v (.bool true), st) := by
  rw [Tryd.params15] at hl h
  match vals, hl with
  | [], _ => exact ⟨_, Vm.c15 _⟩

theorem lifted (os : Os) (started : os.Started) (H : Type) (enc : TypeId × Value → H) :
    ReturnsInHanded {} Tryd.checked os 15 .any (fun w args => (Rows.seeKnownSpec.pre enc Tryd.prog Tryd.f15 [] false w args ∧ laidMetH Tryd.prog Vm.laidL w) ∧ sizedMet enc Tryd.prog Tryd.f15 (OpenSpec.ofChange Rows.seeKnownSpec) false w args)
      (Rows.seeKnownSpec.post enc Tryd.prog Tryd.f15 false true false false) := by
  refine returnsInHanded_of_change_and (C := Tryd.checked) (X := fun w _ => laidMetH Tryd.prog Vm.laidL w) (fun _ _ _ hh h => h.of_heap hh) own started (by kernel_rfl) Tryd.func15
    (ChangeSpec.witness_shaped (enc := enc) (C := Tryd.checked) (os := os) (X := fun w _ => laidMetH Tryd.prog Vm.laidL w) false (World.doorLaid Tryd.prog 19 os) #[] 8 rfl (World.shaped_of_RefB (by kernel_rfl) (by kernel_rfl)) (by kernel_rfl) (by kernel_rfl) (by kernel_rfl) (Vm.door_met os _)) ?_
  intro W base args ds gs before hval hW _ _ hL _
  exact Vm.row_post (os := os) rfl (by rw [Tryd.params15]; kernel_rfl) rfl
    (fun ds h => by
      rw [Tryd.params15] at h
      match ds, h with
      | [], _ => rfl) answer W hL base args ds gs before false true false hval hW

theorem row_holds : Rows.SeeKnownSaid :=
  OpenClaim.holds_of_wide 15 Tryd.f15 rfl rfl rfl rfl rfl rfl rfl ⟨rfl, rfl, rfl, rfl, rfl⟩ rfl rfl rfl rfl rfl (by kernel_rfl) Tryd.func15 (by kernel_rfl)
    (of_decide_eq_true (by kernel_rfl)) (by unfold Func.isWrapper; first | (rw [if_pos (by decide +kernel)]; kernel_rfl) | (rw [if_neg (by decide +kernel)]; exact ⟨rfl, rfl⟩))
    (fun os started H enc _ => lifted os started H enc)

/-- The statement: the tied card. -/
theorem proved : Rows.SeeKnownCardSaid :=
  Claim7.holds_tied_plain_at .later [] [.data, .data] true (true, "afebde5e95197bfceb092dea0fc993115919c36ff399ddfbcbf915315d0ef22b") true
    row_holds (fun _ h => by cases h) (by kernel_rfl) (fun _ h => by cases h) seeKnown_row_tie rfl ⟨rfl, rfl⟩ (by kernel_rfl) rfl
    (fun f fn hf hfn => by
      obtain rfl : f = 15 := Option.some.inj ((show Tryd.prog.funcNamed "headword/headwordlaw02.SeeKnown" = some 15 by kernel_rfl).symm.trans hf) |>.symm
      obtain rfl : fn = Tryd.f15 := (Option.some.inj (Tryd.func15.symm.trans hfn)).symm
      exact ⟨by kernel_rfl, fun j t ht => by
        have hm : t ∈ Tryd.f15.params.toList := by simpa using Array.mem_of_getElem? ht
        have hall : (Tryd.f15.params.toList.all fun u => !Tryd.prog.wantsStandIn u) = true := by kernel_rfl
        exact (show Tryd.prog.wantsStandIn t = false by simpa using List.all_eq_true.1 hall t hm)⟩)
    (by kernel_rfl)
#print axioms proved
end Go.Proofs.YtgohohiaaiogcaaDoor.seeKnown
