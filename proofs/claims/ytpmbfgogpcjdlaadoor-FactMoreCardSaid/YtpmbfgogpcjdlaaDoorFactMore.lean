/- What is proved: FactMore returns true for every book by numbers and every pair by numbers, whatever the memory, and leaves all old memory as it was. No condition but the row's own: the two tables of bits start as the text lays them, which the card ties. -/
import Derived.Test.YtpmbfgogpcjdlaaDoorRows
import Derived.Test.YtpmbfgogpcjdlaaDoorCards
import Derived.Test.YtpmbfgogpcjdlaaDoorTie
import Derived.Test.YtpmbfgogpcjdlaaDoorFw
import Derived.Test.YtpmbfgogpcjdlaaDoorC2
import Derived.SevenTiedAt
import Derived.WalkKit
import Derived.ProofKit
import Derived.LaidMore
import Derived.OpenShut
import Derived.Stop.Joined
namespace Go.Proofs.YtpmbfgogpcjdlaaDoor.factMore
open Go.ChangeShapes Go.WideShapes Go.ChangeAt Go.RowKit Go.Ev
set_option linter.all false
set_option maxRecDepth 100000

theorem own : ownKnob Tryd.prog.godebug = none := by kernel_rfl

theorem answer (vals : List AV) (hl : vals.length = Tryd.f11.params.toList.length) (h : ∀ (j : Nat) t a, Tryd.f11.params.toList[j]? = some t → vals[j]? = some a → ShV Tryd.prog 8 t a) :
    ∃ st, run Vm.L 11 vals ⟨[], []⟩ = some (.v (.bool true), st) := by
  rw [Tryd.params11] at hl h
  match vals, hl with
  | [a, b, c], _ =>
    obtain ⟨zs, rfl, h1, h2⟩ := Vm.sh_quarrel (h 0 _ _ rfl rfl)
    obtain ⟨x, rfl, h3⟩ := Vm.sh_byte (h 1 _ _ rfl rfl)
    obtain ⟨y, rfl, h4⟩ := Vm.sh_byte (h 2 _ _ rfl rfl)
    exact ⟨_, Vm.c11 zs h1 h2 x y h3 h4 _⟩

theorem lifted (os : Os) (started : os.Started) (H : Type) (enc : TypeId × Value → H) :
    ReturnsInHanded {} Tryd.checked os 11 .any (fun w args => (Rows.factMoreSpec.pre enc Tryd.prog Tryd.f11 [] false w args ∧ laidMetH Tryd.prog Vm.laidL w) ∧ sizedMet enc Tryd.prog Tryd.f11 (OpenSpec.ofChange Rows.factMoreSpec) false w args)
      (Rows.factMoreSpec.post enc Tryd.prog Tryd.f11 false true false false) := by
  refine returnsInHanded_of_change_and (C := Tryd.checked) (X := fun w _ => laidMetH Tryd.prog Vm.laidL w) (fun _ _ _ hh h => h.of_heap hh) own started (by kernel_rfl) Tryd.func11
    (ChangeSpec.witness_shaped (enc := enc) (C := Tryd.checked) (os := os) (X := fun w _ => laidMetH Tryd.prog Vm.laidL w) false (World.doorLaid Tryd.prog 19 os) #[.agg (Array.replicate 22 (.int .u8 0)), .int .u8 0, .int .u8 0] 8 rfl (World.shaped_of_RefB (by kernel_rfl) (by kernel_rfl)) (by kernel_rfl) (by kernel_rfl) (by kernel_rfl) (Vm.door_met os _)) ?_
  intro W base args ds gs before hval hW _ _ hL _
  exact Vm.row_post (os := os) rfl (by rw [Tryd.params11]; kernel_rfl) rfl
    (fun ds h => by
      rw [Tryd.params11] at h
      match ds, h with
      | [d0, d1, d2], _ => rfl) answer W hL base args ds gs before false true false hval hW

theorem row_holds : Rows.FactMoreSaid :=
  OpenClaim.holds_of_wide 11 Tryd.f11 rfl rfl rfl rfl rfl rfl rfl ⟨rfl, rfl, rfl, rfl, rfl⟩ rfl rfl rfl rfl rfl (by kernel_rfl) Tryd.func11 (by kernel_rfl)
    (of_decide_eq_true (by kernel_rfl)) (by unfold Func.isWrapper; first | (rw [if_pos (by decide +kernel)]; kernel_rfl) | (rw [if_neg (by decide +kernel)]; exact ⟨rfl, rfl⟩))
    (fun os started H enc _ => lifted os started H enc)

/-- The statement: the tied card. -/
theorem proved : Rows.FactMoreCardSaid :=
  Claim7.holds_tied_plain_at .later [] [.data, .data] true (true, "05fa2d890096d9e731689b40b5c09712b482c262e8dd60688e0cac6ff867f499") false
    row_holds (fun _ h => by cases h) (by kernel_rfl) (fun _ h => by cases h) factMore_row_tie rfl ⟨rfl, rfl⟩ (by kernel_rfl) rfl
    (fun f fn hf hfn => by
      obtain rfl : f = 11 := Option.some.inj ((show Tryd.prog.funcNamed "headword/headwordlaw04.FactMore" = some 11 by kernel_rfl).symm.trans hf) |>.symm
      obtain rfl : fn = Tryd.f11 := (Option.some.inj (Tryd.func11.symm.trans hfn)).symm
      exact ⟨by kernel_rfl, fun j t ht => by
        have hm : t ∈ Tryd.f11.params.toList := by simpa using Array.mem_of_getElem? ht
        have hall : (Tryd.f11.params.toList.all fun u => !Tryd.prog.wantsStandIn u) = true := by kernel_rfl
        exact (show Tryd.prog.wantsStandIn t = false by simpa using List.all_eq_true.1 hall t hm)⟩)
    (by kernel_rfl)
#print axioms proved
end Go.Proofs.YtpmbfgogpcjdlaaDoor.factMore
