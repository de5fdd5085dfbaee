/- What is proved: VolumeCuts returns true whatever the argument, and leaves all old memory as it was. No condition. -/
import Derived.Test.YtiifibgadipalaaRows
import Derived.Test.YtiifibgadipalaaC3
import Derived.WalkKit
import Derived.ProofKit
import Derived.OpenShut
namespace Go.Proofs.Ytiifibgadipalaa.volumeCuts
open Go.ChangeShapes Go.WideShapes Go.ChangeAt Go.RowKit Go.Ev
set_option linter.all false
set_option maxRecDepth 100000

theorem own : ownKnob Try.prog.godebug = none := by kernel_rfl

theorem answer (vals : List AV) (hl : vals.length = Try.f6.params.toList.length) (h : ∀ (j : Nat) t a, Try.f6.params.toList[j]? = some t → vals[j]? = some a → ShV Try.prog 8 t a) :
    ∃ st, run Vm.L 6 vals ⟨[], []⟩ = some (.v (.bool true), st) := by
  rw [Try.params6] at hl h
  match vals, hl with
  | [b], _ =>
    obtain ⟨nl, arts, room, floor, rfl, _⟩ := Vm.sh_book (h 0 24 b rfl rfl)
    exact ⟨_, Vm.c6 nl arts room floor ⟨[], []⟩⟩

theorem lifted (os : Os) (started : os.Started) (H : Type) (enc : TypeId × Value → H) :
    ReturnsInHanded {} Try.checked os 6 .any (Rows.volumeCutsSpec.pre6 enc Try.prog Try.f6 Rows.volumeCutsRow.domain false) (Rows.volumeCutsSpec.post enc Try.prog Try.f6 false true false false) := by
  refine returnsInHanded_of_change (C := Try.checked) own started (by kernel_rfl) Try.func6
    (ChangeSpec.witness6 (enc := enc) (C := Try.checked) false ⟨#[], #[.agg #[.slice none 0 0, .int .i64 0, .int .i64 0]], []⟩ 8 (by kernel_rfl) (by kernel_rfl) (by kernel_rfl) (by kernel_rfl)) ?_
  intro W base args ds gs before hval hW _ _
  exact Vm.row_post (os := os) rfl (by rw [Try.params6]; kernel_rfl) rfl
    (fun ds h => by
      rw [Try.params6] at h
      match ds, h with
      | [d0], _ => rfl) answer W base args ds gs before false true false hval hW

theorem over : Rows.volumeCutsRow.holds Try.pinned (OpenSpec.ofChange Rows.volumeCutsSpec) :=
  OpenClaim.holds_of_wide 6 Try.f6 rfl rfl rfl rfl rfl rfl rfl ⟨rfl, rfl, rfl, rfl, rfl⟩ rfl rfl rfl rfl rfl (by kernel_rfl) Try.func6 (by kernel_rfl)
    (of_decide_eq_true (by kernel_rfl)) (by unfold Func.isWrapper; first | (rw [if_pos (by decide +kernel)]; kernel_rfl) | (rw [if_neg (by decide +kernel)]; exact ⟨rfl, rfl⟩))
    (fun os started H enc _ => lifted os started H enc)

/-- The statement. -/
theorem proved : Rows.VolumeCutsSaid :=
  over
#print axioms proved
end Go.Proofs.Ytiifibgadipalaa.volumeCuts
