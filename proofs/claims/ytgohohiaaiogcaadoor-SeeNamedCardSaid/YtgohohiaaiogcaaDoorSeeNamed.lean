/- What is proved: SeeNamed returns true for every book and order by numbers, whatever the memory, and leaves all old memory as it was. No condition but the row's own: the two tables of bits start as the text lays them, which the card ties. -/
import Derived.Test.YtgohohiaaiogcaaDoorRows
import Derived.Test.YtgohohiaaiogcaaDoorCards
import Derived.Test.YtgohohiaaiogcaaDoorTie
import Derived.Test.YtgohohiaaiogcaaDoorSw
import Derived.Test.YtgohohiaaiogcaaDoorC3
import Derived.SevenTiedAt
import Derived.WalkKit
import Derived.ProofKit
import Derived.LaidMore
import Derived.OpenShut
import Derived.Stop.Joined
namespace Go.Proofs.YtgohohiaaiogcaaDoor.seeNamed
open Go.ChangeShapes Go.WideShapes Go.ChangeAt Go.RowKit Go.Ev
set_option linter.all false
set_option maxRecDepth 100000

theorem own : ownKnob Tryd.prog.godebug = none := by kernel_rfl

theorem answer (vals : List AV) (hl : vals.length = Tryd.f16.params.toList.length) (h : ∀ (j : Nat) t a, Tryd.f16.params.toList[j]? = some t → vals[j]? = some a → ShV Tryd.prog 8 t a) :
    ∃ st, run Vm.L 16 vals ⟨[], []⟩ = some (.v (.bool true), st) := by
  rw [Tryd.params16] at hl h
  match vals, hl with
  | [a, b], _ =>
    obtain ⟨zs, rfl, h1, h2⟩ := Vm.sh_quarrel (h 0 _ _ rfl rfl)
    obtain ⟨ys, rfl, h3, h4⟩ := Vm.sh_b7 (h 1 _ _ rfl rfl)
    exact ⟨_, Vm.c16 zs ys h1 h2 h3 h4 _⟩

theorem lifted (os : Os) (started : os.Started) (H : Type) (enc : TypeId × Value → H) :
    ReturnsInHanded {} Tryd.checked os 16 .any (fun w args => (Rows.seeNamedSpec.pre enc Tryd.prog Tryd.f16 [] false w args ∧ laidMetH Tryd.prog Vm.laidL w) ∧ sizedMet enc Tryd.prog Tryd.f16 (OpenSpec.ofChange Rows.seeNamedSpec) false w args)
      (Rows.seeNamedSpec.post enc Tryd.prog Tryd.f16 false true false false) := by
  refine returnsInHanded_of_change_and (C := Tryd.checked) (X := fun w _ => laidMetH Tryd.prog Vm.laidL w) (fun _ _ _ hh h => h.of_heap hh) own started (by kernel_rfl) Tryd.func16
    (ChangeSpec.witness_shaped (enc := enc) (C := Tryd.checked) (os := os) (X := fun w _ => laidMetH Tryd.prog Vm.laidL w) false (World.doorLaid Tryd.prog 19 os) #[.agg (Array.replicate 34 (.int .u8 0)), .agg (Array.replicate 7 (.int .u8 0))] 8 rfl (World.shaped_of_RefB (by kernel_rfl) (by kernel_rfl)) (by kernel_rfl) (by kernel_rfl) (by kernel_rfl) (Vm.door_met os _)) ?_
  intro W base args ds gs before hval hW _ _ hL _
  exact Vm.row_post (os := os) rfl (by rw [Tryd.params16]; kernel_rfl) rfl
    (fun ds h => by
      rw [Tryd.params16] at h
      match ds, h with
      | [d0, d1], _ => rfl) answer W hL base args ds gs before false true false hval hW

theorem row_holds : Rows.SeeNamedSaid :=
  OpenClaim.holds_of_wide 16 Tryd.f16 rfl rfl rfl rfl rfl rfl rfl ⟨rfl, rfl, rfl, rfl, rfl⟩ rfl rfl rfl rfl rfl (by kernel_rfl) Tryd.func16 (by kernel_rfl)
    (of_decide_eq_true (by kernel_rfl)) (by unfold Func.isWrapper; first | (rw [if_pos (by decide +kernel)]; kernel_rfl) | (rw [if_neg (by decide +kernel)]; exact ⟨rfl, rfl⟩))
    (fun os started H enc _ => lifted os started H enc)

/-- The statement: the tied card. -/
theorem proved : Rows.SeeNamedCardSaid :=
  Claim7.holds_tied_plain_at .later [] [.data, .data] true (true, "afebde5e95197bfceb092dea0fc993115919c36ff399ddfbcbf915315d0ef22b") true
    row_holds (fun _ h => by cases h) (by kernel_rfl) (fun _ h => by cases h) seeNamed_row_tie rfl ⟨rfl, rfl⟩ (by kernel_rfl) rfl
    (fun f fn hf hfn => by
      obtain rfl : f = 16 := Option.some.inj ((show Tryd.prog.funcNamed "headword/headwordlaw02.SeeNamed" = some 16 by kernel_rfl).symm.trans hf) |>.symm
      obtain rfl : fn = Tryd.f16 := (Option.some.inj (Tryd.func16.symm.trans hfn)).symm
      exact ⟨by kernel_rfl, fun j t ht => by
        have hm : t ∈ Tryd.f16.params.toList := by simpa using Array.mem_of_getElem? ht
        have hall : (Tryd.f16.params.toList.all fun u => !Tryd.prog.wantsStandIn u) = true := by kernel_rfl
        exact (show Tryd.prog.wantsStandIn t = false by simpa using List.all_eq_true.1 hall t hm)⟩)
    (by kernel_rfl)
#print axioms proved
end Go.Proofs.YtgohohiaaiogcaaDoor.seeNamed
