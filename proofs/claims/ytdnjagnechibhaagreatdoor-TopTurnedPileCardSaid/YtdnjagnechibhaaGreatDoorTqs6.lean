/- What is proved: what functions of this program answer, by the evaluator. No condition. -/
import Derived.Test.YtdnjagnechibhaaGreatDoorTqs5
set_option linter.all false
namespace Go.Proofs.YtdnjagnechibhaaGreatDoor.So
open Go Go.RowKit Go.Proofs
set_option linter.all false

/-- What the called function leaves of the Once. -/
structure Held (b off : Nat) (w : World) : Prop where
  h0 : w.cell? ⟨b, off, none⟩ = some (.int .u32 0)
  h1 : w.cell? ⟨b, off + 1, none⟩ = some (.int .i32 1)
  f0 : w.frozen? ⟨b, off, none⟩ = false
  f1 : w.frozen? ⟨b, off + 1, none⟩ = false

set_option maxRecDepth 100001 in
set_option maxHeartbeats 1600000 in
theorem slow (b off : Nat) (pl : Value) (w : World)
    (h0 : w.cell? ⟨b, off, none⟩ = some (.int .u32 0)) (h1 : w.cell? ⟨b, off + 1, none⟩ = some (.int .i32 0))
    (f0 : w.frozen? ⟨b, off, none⟩ = false) (f1 : w.frozen? ⟨b, off + 1, none⟩ = false) (X : World → Prop)
    (hf : Calls Tryz.prog 74 #[pl] (w.setCell ⟨b, off + 1, none⟩ (.int .i32 1)) fun e w' => (∃ v, e = .returned v) ∧ Held b off w' ∧ X w') :
    Calls Tryz.prog 133 #[.pointer (some ⟨b, off, none⟩), .func (.func 74) #[pl] #[]] w fun e w' => e = .returned (.tuple #[]) ∧
      ∃ w1, X w1 ∧ Held b off w1 ∧ w' = (w1.drew.setCell ⟨b, off, none⟩ (.int .u32 1)).setCell ⟨b, off + 1, none⟩ (.int .i32 0) := by
  have hl := run_call_load (P := Tryz.prog) Tryz.func168 (by kernel_rfl) (by kernel_rfl) (by kernel_rfl) .u32 (by kernel_rfl) (w := w.setCell ⟨b, off + 1, none⟩ (.int .i32 1)) (a := ⟨b, off, none⟩) (x := 0) ((World.cell?_setCell_other _ ⟨b, off + 1, none⟩ ⟨b, off, none⟩ _ (by simp)).trans h0)
  have hnot : ∀ (x : Bool) (w : World), (Op.unary .not (.bool x)).run Tryz.prog w = .ok (.bool (!x)) w := fun _ _ => rfl
  go_enter_defers Tryz.func133, Tryz.ntmps133
  go_wp2_with (first | (go_at_call 169; refine (lock_free ⟨b, off + 1, none⟩ _ (by go_simp) (by go_simp)).mono ?_; rintro e w' ⟨rfl, rfl⟩) | (go_at_call 74; refine hf.mono ?_; rintro e w1 ⟨⟨v, rfl⟩, hH, hX⟩) | (go_at_call 132; go_in))
  refine leaves_cons (f := 171) (args := #[.pointer (some ⟨b, off, none⟩), .bool true]) (by simp) (by simp [go_sem]) ?_
  refine (store_deferred ⟨b, off, none⟩ (.int .u32 0) .returning _ hH.h0 hH.f0).mono ?_
  rintro e u' w'' ⟨rfl, rfl, rfl⟩
  refine leaves_cons (f := 170) (args := #[.pointer (some ⟨b, off + 1, none⟩)]) (by simp [settle]) (by simp [go_sem]) ?_
  refine (unlock_deferred ⟨b, off + 1, none⟩ _ _ ?_ ?_).mono ?_
  · refine (World.cell?_setCell_other _ ⟨b, off, none⟩ ⟨b, off + 1, none⟩ _ (by simp)).trans ?_
    rw [World.cell?_drew]
    exact hH.h1
  · have := hH.f1
    simp [this]
  rintro e u' w'' ⟨rfl, rfl, rfl⟩
  simp [Leaves, settle, results, Tryz.results133]
  exact ⟨w1, hX, hH, rfl⟩

set_option maxRecDepth 100001 in
set_option maxHeartbeats 1600000 in
/-- '(*sync.Once).Do', not yet done, the lock free. -/
theorem do_first (b off : Nat) (pl : Value) (w : World)
    (h0 : w.cell? ⟨b, off, none⟩ = some (.int .u32 0)) (h1 : w.cell? ⟨b, off + 1, none⟩ = some (.int .i32 0))
    (f0 : w.frozen? ⟨b, off, none⟩ = false) (f1 : w.frozen? ⟨b, off + 1, none⟩ = false) (X : World → Prop)
    (hf : Calls Tryz.prog 74 #[pl] (w.setCell ⟨b, off + 1, none⟩ (.int .i32 1)) fun e w' => (∃ v, e = .returned v) ∧ Held b off w' ∧ X w') :
    Calls Tryz.prog 73 #[.pointer (some ⟨b, off, none⟩), .func (.func 74) #[pl] #[]] w fun e w' => e = .returned (.tuple #[]) ∧
      ∃ w1, X w1 ∧ Held b off w1 ∧ w' = (w1.drew.setCell ⟨b, off, none⟩ (.int .u32 1)).setCell ⟨b, off + 1, none⟩ (.int .i32 0) := by
  have hl := run_call_load (P := Tryz.prog) Tryz.func168 (by kernel_rfl) (by kernel_rfl) (by kernel_rfl) .u32 (by kernel_rfl) h0
  have hnot : ∀ (x : Bool) (w : World), (Op.unary .not (.bool x)).run Tryz.prog w = .ok (.bool (!x)) w := fun _ _ => rfl
  go_enter Tryz.func73, Tryz.ntmps73
  go_wp2_with (first | (go_at_call 133; refine (slow b off pl _ h0 h1 f0 f1 X hf).mono ?_; rintro e w' ⟨rfl, w1, hX, hH, rfl⟩) | (go_at_call 132; go_in))
  go_end0
  exact ⟨rfl, w1, hX, hH, rfl⟩
end Go.Proofs.YtdnjagnechibhaaGreatDoor.So
