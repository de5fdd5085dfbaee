/- What is proved: TopTurnedPile returns true for every sheets and folds by numbers, whatever the memory, and leaves all old memory as it was. No condition but the row's own: the listed tables start as the text lays them, which the card ties. -/
import Derived.Test.YtdnjagnechibhaaGreatDoorRows
import Derived.Test.YtdnjagnechibhaaGreatDoorCards
import Derived.Test.YtdnjagnechibhaaGreatDoorTie
import Derived.SevenTiedAt
import Derived.WalkKit
import Derived.ProofKit
import Derived.LaidMore
import Derived.OpenShut
import Derived.Stop.Joined
import Derived.Test.YtdnjagnechibhaaGreatDoorTw3
import Derived.Test.YtdnjagnechibhaaGreatDoorTw4
import Derived.Test.YtdnjagnechibhaaGreatDoorTw5
namespace Go.Proofs.YtdnjagnechibhaaGreatDoor.topTurnedPile
open Go.ChangeShapes Go.WideShapes Go.ChangeAt Go.RowKit Go.Ev
set_option linter.all false
set_option maxRecDepth 100000

theorem closed : joinedFacts Tryz.pinned.checked.prog 5 Tryz.f5 Rows.topTurnedPileSpec Rows.topTurnedPileRow = true := by
  unfold joinedFacts
  simp only [Bool.and_eq_true]
  repeat' apply And.intro
  all_goals first | with_reducible exact rf1 | with_reducible exact rf2 | with_reducible exact rf3 | with_reducible exact rf4 | kernel_rfl
theorem row_holds : Rows.TopTurnedPileSaid :=
  OpenClaim.holds_of_wide 5 Tryz.f5 rfl rfl rfl rfl rfl rfl rfl ⟨rfl, rfl, rfl, rfl, rfl⟩ rfl rfl rfl rfl rfl (by kernel_rfl) Tryz.func5 closed
    (of_decide_eq_true (by kernel_rfl)) (by unfold Func.isWrapper; first | (rw [if_pos (by decide +kernel)]; kernel_rfl) | (rw [if_neg (by decide +kernel)]; exact ⟨rfl, rfl⟩))
    (fun os started H enc _ => lifted os started H enc)

/-- The statement: the tied card. -/
theorem proved : Rows.TopTurnedPileCardSaid :=
  Claim7.holds_tied_plain_at .later [] [.data, .data, .data, .pinned] true (true, "f470acc14b5f21bb5eafc52218b8475eb3de24083c90c35a174d40065aa3b548") true
    row_holds (fun _ h => by cases h) (by kernel_rfl) (fun _ h => by cases h) topTurnedPile_row_tie rfl ⟨rfl, rfl⟩ (by kernel_rfl) rfl
    (fun f fn hf hfn => by
      obtain rfl : f = 5 := Option.some.inj ((show Tryz.prog.funcNamed "headword/headwordtop.TopTurnedPile" = some 5 by kernel_rfl).symm.trans hf) |>.symm
      obtain rfl : fn = Tryz.f5 := (Option.some.inj (Tryz.func5.symm.trans hfn)).symm
      exact ⟨by kernel_rfl, fun j t ht => by
        have hm : t ∈ Tryz.f5.params.toList := by simpa using Array.mem_of_getElem? ht
        have hall : (Tryz.f5.params.toList.all fun u => !Tryz.prog.wantsStandIn u) = true := by kernel_rfl
        exact (show Tryz.prog.wantsStandIn t = false by simpa using List.all_eq_true.1 hall t hm)⟩)
    (by kernel_rfl)
#print axioms proved
end Go.Proofs.YtdnjagnechibhaaGreatDoor.topTurnedPile
