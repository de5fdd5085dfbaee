/- What is proved: VolumeShown returns true whatever the arguments, and leaves all old memory as it was. No condition. -/
import Derived.Test.YtiifibgadipalaaRows
import Derived.Test.YtiifibgadipalaaC2
import Derived.WalkKit
import Derived.ProofKit
import Derived.OpenShut
namespace Go.Proofs.Ytiifibgadipalaa.volumeShown
open Go.ChangeShapes Go.WideShapes Go.ChangeAt Go.RowKit Go.Ev
set_option linter.all false
set_option maxRecDepth 100000

theorem own : ownKnob Try.prog.godebug = none := by kernel_rfl

theorem answer (vals : List AV) (hl : vals.length = Try.f16.params.toList.length) (h : ∀ (j : Nat) t a, Try.f16.params.toList[j]? = some t → vals[j]? = some a → ShV Try.prog 8 t a) :
    ∃ st, run Vm.L 16 vals ⟨[], []⟩ = some (.v (.bool true), st) := by
  rw [Try.params16] at hl h
  match vals, hl with
  | [b, c, e, f], _ =>
    obtain ⟨s, rfl, hs⟩ := Vm.sh_shelf (h 0 62 b rfl rfl)
    obtain ⟨n, rfl, h1⟩ := Vm.sh_byte (h 1 5 c rfl rfl)
    obtain ⟨zs, rfl, h2, h3⟩ := Vm.sh_four (h 2 86 e rfl rfl)
    obtain ⟨m, rfl, h4⟩ := Vm.sh_byte (h 3 5 f rfl rfl)
    exact ⟨_, Vm.c16 s hs n h1 zs h2 h3 m h4 ⟨[], []⟩⟩

theorem lifted (os : Os) (started : os.Started) (H : Type) (enc : TypeId × Value → H) :
    ReturnsInHanded {} Try.checked os 16 .any (Rows.volumeShownSpec.pre6 enc Try.prog Try.f16 Rows.volumeShownRow.domain false) (Rows.volumeShownSpec.post enc Try.prog Try.f16 false true false false) := by
  refine returnsInHanded_of_change (C := Try.checked) own started (by kernel_rfl) Try.func16
    (ChangeSpec.witness6 (enc := enc) (C := Try.checked) false ⟨#[], #[.agg (Array.replicate 27 (.int .u8 0)), .int .u8 0, .agg (Array.replicate 8 (.int .u8 0)), .int .u8 0], []⟩ 8 (by kernel_rfl) (by kernel_rfl) (by kernel_rfl) (by kernel_rfl)) ?_
  intro W base args ds gs before hval hW _ _
  exact Vm.row_post (os := os) rfl (by rw [Try.params16]; kernel_rfl) rfl
    (fun ds h => by
      rw [Try.params16] at h
      match ds, h with
      | [d0, d1, d2, d3], _ => rfl) answer W base args ds gs before false true false hval hW

theorem over : Rows.volumeShownRow.holds Try.pinned (OpenSpec.ofChange Rows.volumeShownSpec) :=
  OpenClaim.holds_of_wide 16 Try.f16 rfl rfl rfl rfl rfl rfl rfl ⟨rfl, rfl, rfl, rfl, rfl⟩ rfl rfl rfl rfl rfl (by kernel_rfl) Try.func16 (by kernel_rfl)
    (of_decide_eq_true (by kernel_rfl)) (by unfold Func.isWrapper; first | (rw [if_pos (by decide +kernel)]; kernel_rfl) | (rw [if_neg (by decide +kernel)]; exact ⟨rfl, rfl⟩))
    (fun os started H enc _ => lifted os started H enc)

/-- The statement. -/
theorem proved : Rows.VolumeShownSaid :=
  over
#print axioms proved
end Go.Proofs.Ytiifibgadipalaa.volumeShown
