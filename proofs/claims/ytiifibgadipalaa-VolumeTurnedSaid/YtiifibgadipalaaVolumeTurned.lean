/- What is proved: VolumeTurned returns true whatever the arguments, and leaves all old memory as it was. No condition. -/
import Derived.Test.YtiifibgadipalaaRows
import Derived.Test.YtiifibgadipalaaC3
import Derived.WalkKit
import Derived.ProofKit
import Derived.OpenShut
namespace Go.Proofs.Ytiifibgadipalaa.volumeTurned
open Go.ChangeShapes Go.WideShapes Go.ChangeAt Go.RowKit Go.Ev
set_option linter.all false
set_option maxRecDepth 100000

theorem own : ownKnob Try.prog.godebug = none := by kernel_rfl

theorem answer (vals : List AV) (hl : vals.length = Try.f15.params.toList.length) (h : ∀ (j : Nat) t a, Try.f15.params.toList[j]? = some t → vals[j]? = some a → ShV Try.prog 8 t a) :
    ∃ st, run Vm.L 15 vals ⟨[], []⟩ = some (.v (.bool true), st) := by
  rw [Try.params15] at hl h
  match vals, hl with
  | [b, c], _ =>
    obtain ⟨s, rfl, hs⟩ := Vm.sh_shelf (h 0 62 b rfl rfl)
    obtain ⟨n, rfl, h1⟩ := Vm.sh_byte (h 1 5 c rfl rfl)
    exact ⟨_, Vm.c15 s hs n h1 ⟨[], []⟩⟩

theorem lifted (os : Os) (started : os.Started) (H : Type) (enc : TypeId × Value → H) :
    ReturnsInHanded {} Try.checked os 15 .any (Rows.volumeTurnedSpec.pre6 enc Try.prog Try.f15 Rows.volumeTurnedRow.domain false) (Rows.volumeTurnedSpec.post enc Try.prog Try.f15 false true false false) := by
  refine returnsInHanded_of_change (C := Try.checked) own started (by kernel_rfl) Try.func15
    (ChangeSpec.witness6 (enc := enc) (C := Try.checked) false ⟨#[], #[.agg (Array.replicate 27 (.int .u8 0)), .int .u8 0], []⟩ 8 (by kernel_rfl) (by kernel_rfl) (by kernel_rfl) (by kernel_rfl)) ?_
  intro W base args ds gs before hval hW _ _
  exact Vm.row_post (os := os) rfl (by rw [Try.params15]; kernel_rfl) rfl
    (fun ds h => by
      rw [Try.params15] at h
      match ds, h with
      | [d0, d1], _ => rfl) answer W base args ds gs before false true false hval hW

theorem over : Rows.volumeTurnedRow.holds Try.pinned (OpenSpec.ofChange Rows.volumeTurnedSpec) :=
  OpenClaim.holds_of_wide 15 Try.f15 rfl rfl rfl rfl rfl rfl rfl ⟨rfl, rfl, rfl, rfl, rfl⟩ rfl rfl rfl rfl rfl (by kernel_rfl) Try.func15 (by kernel_rfl)
    (of_decide_eq_true (by kernel_rfl)) (by unfold Func.isWrapper; first | (rw [if_pos (by decide +kernel)]; kernel_rfl) | (rw [if_neg (by decide +kernel)]; exact ⟨rfl, rfl⟩))
    (fun os started H enc _ => lifted os started H enc)

/-- The statement. -/
theorem proved : Rows.VolumeTurnedSaid :=
  over
#print axioms proved
end Go.Proofs.Ytiifibgadipalaa.volumeTurned
