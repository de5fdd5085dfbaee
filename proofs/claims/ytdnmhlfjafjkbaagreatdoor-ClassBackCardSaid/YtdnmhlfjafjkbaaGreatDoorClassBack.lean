/- What is proved: ClassBack returns true for every choice by numbers, whatever the memory, and leaves all old memory as it was. No condition but the row's own: the two tables of bits start as the text lays them, which the card ties. -/
import Derived.Test.YtdnmhlfjafjkbaaGreatDoorRows
import Derived.Test.YtdnmhlfjafjkbaaGreatDoorCards
import Derived.Test.YtdnmhlfjafjkbaaGreatDoorTie
import Derived.Test.YtdnmhlfjafjkbaaGreatDoorTw
import Derived.Test.YtdnmhlfjafjkbaaGreatDoorC5
import Derived.SevenTiedAt
import Derived.WalkKit
import Derived.ProofKit
import Derived.LaidMore
import Derived.OpenShut
import Derived.Stop.Joined
namespace Go.Proofs.YtdnmhlfjafjkbaaGreatDoor.classBack
open Go.ChangeShapes Go.WideShapes Go.ChangeAt Go.RowKit Go.Ev
set_option linter.all false
set_option maxRecDepth 100000

theorem own : ownKnob Tryz.prog.godebug = none := by kernel_rfl

theorem answer (vals : List AV) (hl : vals.length = Tryz.f11.params.toList.length) (h : ∀ (j : Nat) t a, Tryz.f11.params.toList[j]? = some t → vals[j]? = some a → ShV Tryz.prog 8 t a) :
    ∃ st, run Vm.L 11 vals ⟨[], []⟩ = some (.v (.bool true), st) := by
  rw [Tryz.params11] at hl h
  match vals, hl with
  | [c, x, y], _ =>
    obtain ⟨a, g, zs, m, w, rfl, ha, hg, hz, hzs, hm, hw⟩ := Vm.sh_cut (h 0 _ _ rfl rfl)
    obtain ⟨x1, rfl, hx1⟩ := Vm.sh_byte (h 1 _ _ rfl rfl)
    obtain ⟨x2, rfl, hx2⟩ := Vm.sh_byte (h 2 _ _ rfl rfl)
    exact ⟨_, Vm.c11 a g ha zs hz hzs m w hm x1 x2 hx1 hx2⟩

theorem lifted (os : Os) (started : os.Started) (H : Type) (enc : TypeId × Value → H) :
    ReturnsInHanded {} Tryz.checked os 11 .any (fun w args => (Rows.classBackSpec.pre enc Tryz.prog Tryz.f11 [] false w args ∧ laidMetH Tryz.prog Vm.laidL w) ∧ sizedMet enc Tryz.prog Tryz.f11 (OpenSpec.ofChange Rows.classBackSpec) false w args)
      (Rows.classBackSpec.post enc Tryz.prog Tryz.f11 false true false false) := by
  refine returnsInHanded_of_change_and (C := Tryz.checked) (X := fun w _ => laidMetH Tryz.prog Vm.laidL w) (fun _ _ _ hh h => h.of_heap hh) own started (by kernel_rfl) Tryz.func11
    (ChangeSpec.witness_shaped (enc := enc) (C := Tryz.checked) (os := os) (X := fun w _ => laidMetH Tryz.prog Vm.laidL w) false (World.doorLaid Tryz.prog 19 os) #[.agg (Array.replicate 16 (.int .u8 0) ++ #[.int .u16 0]), .int .u8 0, .int .u8 0] 8 rfl (World.shaped_of_RefB (by kernel_rfl) (by kernel_rfl)) (by kernel_rfl) (by kernel_rfl) (by kernel_rfl) (Vm.door_met os _)) ?_
  intro W base args ds gs before hval hW _ _ hL _
  exact Vm.row_post (os := os) rfl (by rw [Tryz.params11]; kernel_rfl) rfl
    (fun ds h => by
      rw [Tryz.params11] at h
      match ds, h with
      | [d0, d1, d2], _ => rfl) answer W hL base args ds gs before false true false hval hW

theorem row_holds : Rows.ClassBackSaid :=
  OpenClaim.holds_of_wide 11 Tryz.f11 rfl rfl rfl rfl rfl rfl rfl ⟨rfl, rfl, rfl, rfl, rfl⟩ rfl rfl rfl rfl rfl (by kernel_rfl) Tryz.func11 (by kernel_rfl)
    (of_decide_eq_true (by kernel_rfl)) (by unfold Func.isWrapper; first | (rw [if_pos (by decide +kernel)]; kernel_rfl) | (rw [if_neg (by decide +kernel)]; exact ⟨rfl, rfl⟩))
    (fun os started H enc _ => lifted os started H enc)

/-- The statement: the tied card. -/
theorem proved : Rows.ClassBackCardSaid :=
  Claim7.holds_tied_plain_at .later [] [.data, .data] true (true, "e443b60f0dc5cbb4d1899001fbb29c86fcfbd1d6c61e17659ea4c3a4174075b7") false
    row_holds (fun _ h => by cases h) (by kernel_rfl) (fun _ h => by cases h) classBack_row_tie rfl ⟨rfl, rfl⟩ (by kernel_rfl) rfl
    (fun f fn hf hfn => by
      obtain rfl : f = 11 := Option.some.inj ((show Tryz.prog.funcNamed "headword/headwordlaw05.ClassBack" = some 11 by kernel_rfl).symm.trans hf) |>.symm
      obtain rfl : fn = Tryz.f11 := (Option.some.inj (Tryz.func11.symm.trans hfn)).symm
      exact ⟨by kernel_rfl, fun j t ht => by
        have hm : t ∈ Tryz.f11.params.toList := by simpa using Array.mem_of_getElem? ht
        have hall : (Tryz.f11.params.toList.all fun u => !Tryz.prog.wantsStandIn u) = true := by kernel_rfl
        exact (show Tryz.prog.wantsStandIn t = false by simpa using List.all_eq_true.1 hall t hm)⟩)
    (by kernel_rfl)
#print axioms proved
end Go.Proofs.YtdnmhlfjafjkbaaGreatDoor.classBack
