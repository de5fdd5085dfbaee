/- What is proved: what functions of this program answer, by the evaluator. No condition. -/
import Derived.Test.YtdnjagnechibhaaGreatDoorRows
import Derived.Test.YtdnjagnechibhaaGreatDoorCards
import Derived.Test.YtdnjagnechibhaaGreatDoorTie
import Derived.Test.YtdnjagnechibhaaGreatDoorTw
import Derived.Test.YtdnjagnechibhaaGreatDoorTw1
import Derived.Test.YtdnjagnechibhaaGreatDoorTw2
import Derived.Test.YtdnjagnechibhaaGreatDoorC1
import Derived.Test.YtdnjagnechibhaaGreatDoorTqp5
import Derived.SevenTiedAt
import Derived.WalkKit
import Derived.ProofKit
import Derived.LaidMore
import Derived.OpenShut
import Derived.Stop.Joined
set_option linter.all false
namespace Go.Proofs.YtdnjagnechibhaaGreatDoor.topTurnedPile
open Go.ChangeShapes Go.WideShapes Go.ChangeAt Go.RowKit Go.Ev
set_option linter.all false
set_option maxRecDepth 100001

theorem own : ownKnob Tryz.prog.godebug = none := by kernel_rfl

theorem answer (vals : List AV) (hl : vals.length = Tryz.f5.params.toList.length) (h : ∀ (j : Nat) t a, Tryz.f5.params.toList[j]? = some t → vals[j]? = some a → ShV Tryz.prog 8 t a) :
    ∃ st, run Vm.L 5 vals ⟨[], []⟩ = some (.v (.bool true), st) := by
  rw [Tryz.params5] at hl h
  match vals, hl with
  | [x, y, c], _ =>
    obtain ⟨a, rfl, ha⟩ := Vm.sh_byte (h 0 _ _ rfl rfl)
    obtain ⟨b, rfl, hb⟩ := Vm.sh_byte (h 1 _ _ rfl rfl)
    obtain ⟨zs, rfl, hzl, hz⟩ := Vm.sh_pairs (h 2 _ _ rfl rfl)
    exact ⟨_, Vm.c5 a b ha hb zs hzl hz _⟩

theorem lifted (os : Os) (started : os.Started) (H : Type) (enc : TypeId × Value → H) :
    ReturnsInHanded {} Tryz.checked os 5 .any (fun w args => (Rows.topTurnedPileSpec.pre enc Tryz.prog Tryz.f5 [] false w args ∧ laidMetH Tryz.prog Vm.laidL w) ∧ sizedMet enc Tryz.prog Tryz.f5 (OpenSpec.ofChange Rows.topTurnedPileSpec) false w args)
      (Rows.topTurnedPileSpec.post enc Tryz.prog Tryz.f5 false true false false) := by
  refine returnsInHanded_of_change_and (C := Tryz.checked) (X := fun w _ => laidMetH Tryz.prog Vm.laidL w) (fun _ _ _ hh h => h.of_heap hh) own started (by kernel_rfl) Tryz.func5
    (ChangeSpec.witness_shaped (enc := enc) (C := Tryz.checked) (os := os) (X := fun w _ => laidMetH Tryz.prog Vm.laidL w) false (Vm.doorW os) #[.int .u8 0, .int .u8 0, .agg (Array.replicate 16 (.int .u8 0))] 8 rfl (Vm.door_shaped os _) (by kernel_rfl) (by kernel_rfl) (by kernel_rfl) (Vm.door_met os _)) ?_
  intro W base args ds gs before hval hW _ _ hL _
  exact Vm.row_post (os := os) rfl (by rw [Tryz.params5]; kernel_rfl) rfl
    (fun ds h => by
      rw [Tryz.params5] at h
      match ds, h with
      | [d0, d1, d2], _ => rfl) answer W hL base args ds gs before false true false hval hW

end Go.Proofs.YtdnjagnechibhaaGreatDoor.topTurnedPile
