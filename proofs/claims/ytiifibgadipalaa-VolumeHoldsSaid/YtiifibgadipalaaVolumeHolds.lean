/- What is proved: VolumeHolds returns true whatever the arguments, and leaves all old memory as it was. No condition. -/
import Derived.Test.YtiifibgadipalaaRows
import Derived.Test.YtiifibgadipalaaC2
import Derived.WalkKit
import Derived.ProofKit
import Derived.OpenShut
namespace Go.Proofs.Ytiifibgadipalaa.volumeHolds
open Go.ChangeShapes Go.WideShapes Go.ChangeAt Go.RowKit Go.Ev
set_option linter.all false
set_option maxRecDepth 100000

theorem own : ownKnob Try.prog.godebug = none := by kernel_rfl

theorem answer (vals : List AV) (hl : vals.length = Try.f3.params.toList.length) (h : ∀ (j : Nat) t a, Try.f3.params.toList[j]? = some t → vals[j]? = some a → ShV Try.prog 8 t a) :
    ∃ st, run Vm.L 3 vals ⟨[], []⟩ = some (.v (.bool true), st) := by
  rw [Try.params3] at hl h
  match vals, hl with
  | [b, ends, a], _ =>
    obtain ⟨nl, arts, room, floor, rfl, _⟩ := Vm.sh_book (h 0 24 b rfl rfl)
    obtain ⟨n2, zs, rfl, _⟩ := Vm.sh_list (h 1 25 ends rfl rfl)
    obtain ⟨n, rfl, _⟩ := sh_int Try.underlying3 (h 2 3 a rfl rfl)
    exact ⟨_, Vm.c3 nl n2 arts room floor zs n ⟨[], []⟩⟩

theorem lifted (os : Os) (started : os.Started) (H : Type) (enc : TypeId × Value → H) :
    ReturnsInHanded {} Try.checked os 3 .any (Rows.volumeHoldsSpec.pre6 enc Try.prog Try.f3 Rows.volumeHoldsRow.domain false) (Rows.volumeHoldsSpec.post enc Try.prog Try.f3 false true false false) := by
  refine returnsInHanded_of_change (C := Try.checked) own started (by kernel_rfl) Try.func3
    (ChangeSpec.witness6 (enc := enc) (C := Try.checked) false ⟨#[], #[.agg #[.slice none 0 0, .int .i64 0, .int .i64 0], .slice none 0 0, .int .i64 0], []⟩ 8 (by kernel_rfl) (by kernel_rfl) (by kernel_rfl) (by kernel_rfl)) ?_
  intro W base args ds gs before hval hW _ _
  exact Vm.row_post (os := os) rfl (by rw [Try.params3]; kernel_rfl) rfl
    (fun ds h => by
      rw [Try.params3] at h
      match ds, h with
      | [d0, d1, d2], _ => rfl) answer W base args ds gs before false true false hval hW

theorem over : Rows.volumeHoldsRow.holds Try.pinned (OpenSpec.ofChange Rows.volumeHoldsSpec) :=
  OpenClaim.holds_of_wide 3 Try.f3 rfl rfl rfl rfl rfl rfl rfl ⟨rfl, rfl, rfl, rfl, rfl⟩ rfl rfl rfl rfl rfl (by kernel_rfl) Try.func3 (by kernel_rfl)
    (of_decide_eq_true (by kernel_rfl)) (by unfold Func.isWrapper; first | (rw [if_pos (by decide +kernel)]; kernel_rfl) | (rw [if_neg (by decide +kernel)]; exact ⟨rfl, rfl⟩))
    (fun os started H enc _ => lifted os started H enc)

/-- The statement. -/
theorem proved : Rows.VolumeHoldsSaid :=
  over
#print axioms proved
end Go.Proofs.Ytiifibgadipalaa.volumeHolds
