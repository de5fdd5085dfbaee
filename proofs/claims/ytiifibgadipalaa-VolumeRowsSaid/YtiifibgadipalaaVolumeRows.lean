/- What is proved: VolumeRows returns true whatever the arguments, and leaves all old memory as it was. No condition. -/
import Derived.Test.YtiifibgadipalaaRows
import Derived.Test.YtiifibgadipalaaC3
import Derived.WalkKit
import Derived.ProofKit
import Derived.OpenShut
namespace Go.Proofs.Ytiifibgadipalaa.volumeRows
open Go.ChangeShapes Go.WideShapes Go.ChangeAt Go.RowKit Go.Ev
set_option linter.all false
set_option maxRecDepth 100000

theorem own : ownKnob Try.prog.godebug = none := by kernel_rfl

theorem answer (vals : List AV) (hl : vals.length = Try.f5.params.toList.length) (h : ∀ (j : Nat) t a, Try.f5.params.toList[j]? = some t → vals[j]? = some a → ShV Try.prog 8 t a) :
    ∃ st, run Vm.L 5 vals ⟨[], []⟩ = some (.v (.bool true), st) := by
  rw [Try.params5] at hl h
  match vals, hl with
  | [b, a, ss], _ =>
    obtain ⟨nl, arts, room, floor, rfl, _⟩ := Vm.sh_book (h 0 24 b rfl rfl)
    obtain ⟨n, rfl, hn⟩ := sh_int Try.underlying3 (h 1 3 a rfl rfl)
    obtain ⟨n2, ps, rfl, _⟩ := Vm.sh_rows (h 2 49 ss rfl rfl)
    exact ⟨_, Vm.c5 nl n2 arts room floor n (bounds_i64 hn).2 ps ⟨[], []⟩⟩

theorem lifted (os : Os) (started : os.Started) (H : Type) (enc : TypeId × Value → H) :
    ReturnsInHanded {} Try.checked os 5 .any (Rows.volumeRowsSpec.pre6 enc Try.prog Try.f5 Rows.volumeRowsRow.domain false) (Rows.volumeRowsSpec.post enc Try.prog Try.f5 false true false false) := by
  refine returnsInHanded_of_change (C := Try.checked) own started (by kernel_rfl) Try.func5
    (ChangeSpec.witness6 (enc := enc) (C := Try.checked) false ⟨#[], #[.agg #[.slice none 0 0, .int .i64 0, .int .i64 0], .int .i64 0, .slice none 0 0], []⟩ 8 (by kernel_rfl) (by kernel_rfl) (by kernel_rfl) (by kernel_rfl)) ?_
  intro W base args ds gs before hval hW _ _
  exact Vm.row_post (os := os) rfl (by rw [Try.params5]; kernel_rfl) rfl
    (fun ds h => by
      rw [Try.params5] at h
      match ds, h with
      | [d0, d1, d2], _ => rfl) answer W base args ds gs before false true false hval hW

theorem over : Rows.volumeRowsRow.holds Try.pinned (OpenSpec.ofChange Rows.volumeRowsSpec) :=
  OpenClaim.holds_of_wide 5 Try.f5 rfl rfl rfl rfl rfl rfl rfl ⟨rfl, rfl, rfl, rfl, rfl⟩ rfl rfl rfl rfl rfl (by kernel_rfl) Try.func5 (by kernel_rfl)
    (of_decide_eq_true (by kernel_rfl)) (by unfold Func.isWrapper; first | (rw [if_pos (by decide +kernel)]; kernel_rfl) | (rw [if_neg (by decide +kernel)]; exact ⟨rfl, rfl⟩))
    (fun os started H enc _ => lifted os started H enc)

/-- The statement. -/
theorem proved : Rows.VolumeRowsSaid :=
  over
#print axioms proved
end Go.Proofs.Ytiifibgadipalaa.volumeRows
