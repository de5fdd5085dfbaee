/- What is proved: what functions of this program answer, by the evaluator. No condition. -/
import Derived.Test.YtdnjagnechibhaaGreatDoorTqs7
set_option linter.all false
namespace Go.Proofs.YtdnjagnechibhaaGreatDoor.So
open Go Go.RowKit Go.Shelf Go.Ev Go.Proofs
set_option linter.all false

theorem meth (a : Addr) (w : World) : (method 523 242 (.pointer (some a)) "Replace").run Tryz.prog w = .ok (332, .pointer (some a)) w := by kernel_rfl
theorem setCell_size (W : World) (a : Addr) (v : Value) : (W.setCell a v).heap.size = W.heap.size := by show (W.heap.modify _ _).size = _; rw [Array.size_modify]
theorem after_do (c t : Nat) (ht0 : t ≠ c) (w1 : World) (ht2 : w1.cell? ⟨c, 3, none⟩ = some (.iface 242 (.pointer (some ⟨t, 0, none⟩)))) (ht3 : w1.cell? ⟨t, 111, none⟩ = some (ub 117)) (ht4 : w1.cell? ⟨t, 117, none⟩ = some (ub 111)) (w2 : World)
    (h : w2 = (w1.drew.setCell ⟨c, 0, none⟩ (.int .u32 1)).setCell ⟨c, 1, none⟩ (.int .i32 0)) :
    w2.heap.size = w1.heap.size ∧ w2.cell? ⟨c, 3, none⟩ = some (.iface 242 (.pointer (some ⟨t, 0, none⟩))) ∧ w2.cell? ⟨t, 111, none⟩ = some (ub 117) ∧ w2.cell? ⟨t, 117, none⟩ = some (ub 111) := by
  have nb : ∀ (j k : Nat), (⟨c, k, none⟩ : Addr) ≠ ⟨t, j, none⟩ := fun j k h => ht0 (congrArg Addr.block h).symm
  have key : ∀ (j : Nat) (v : Value), w1.cell? ⟨t, j, none⟩ = some v → w2.cell? ⟨t, j, none⟩ = some v := fun j v hv => by
    rw [h, World.cell?_setCell_other _ _ _ _ (nb _ _), World.cell?_setCell_other _ _ _ _ (nb _ _), World.cell?_drew]; exact hv
  refine ⟨?_, ?_, key _ _ ht3, key _ _ ht4⟩
  · rw [h, setCell_size, setCell_size]; rfl
  · rw [h, World.cell?_setCell_other _ _ _ _ (by simp), World.cell?_setCell_other _ _ _ _ (by simp), World.cell?_drew]; exact ht2
set_option maxRecDepth 100001 in
set_option maxHeartbeats 4000000 in
/-- '(*strings.Replacer).Replace' of two letters, the first time. -/
theorem replace (c : Nat) (a b : UInt8) (ha : a = 111 ∨ a = 117) (hb : b = 111 ∨ b = 117) (w : World)
    (h0 : w.cell? ⟨c, 0, none⟩ = some (.int .u32 0)) (h1 : w.cell? ⟨c, 1, none⟩ = some (.int .i32 0))
    (f0 : w.frozen? ⟨c, 0, none⟩ = false) (f1 : w.frozen? ⟨c, 1, none⟩ = false) (X : World → Prop)
    (hf : Calls Tryz.prog 74 #[.pointer (some ⟨c, 0, none⟩)] (w.setCell ⟨c, 1, none⟩ (.int .i32 1)) fun e w' => (∃ v, e = .returned v) ∧ Held c 0 w' ∧ X w')
    (hX : ∀ w1, X w1 → ∃ t, t ≠ c ∧ t < w1.heap.size ∧ w1.cell? ⟨c, 3, none⟩ = some (.iface 242 (.pointer (some ⟨t, 0, none⟩))) ∧ w1.cell? ⟨t, 111, none⟩ = some (ub 117) ∧ w1.cell? ⟨t, 117, none⟩ = some (ub 111)) :
    Calls Tryz.prog 27 #[.pointer (some ⟨c, 0, none⟩), .string ⟨#[a, b]⟩] w fun e w' => e = .returned (.string ⟨#[if a = 111 then 117 else 111, if b = 111 then 117 else 111]⟩) ∧
      ∃ w1, X w1 ∧ Below w1.heap.size ((w1.drew.setCell ⟨c, 0, none⟩ (.int .u32 1)).setCell ⟨c, 1, none⟩ (.int .i32 0)) w' := by
  obtain ⟨r, hr⟩ : ∃ r : ByteArray, (⟨#[if a = 111 then 117 else 111, if b = 111 then 117 else 111]⟩ : ByteArray) = r := ⟨_, rfl⟩
  have hrep := fun w2 t ht e1 e2 => repl w2 t ht e1 e2 a b ha hb
  rw [hr]
  simp only [hr] at hrep
  clear hr
  have hmf : ∀ (fn : Fn) (first cap : Array Value) (w : World), (Instr.makeFunc fn first cap).run Tryz.prog w = .ok (.func fn first cap) w := fun _ _ _ _ => rfl
  have hmeth : ∀ (a : Addr) (w : World), (method 523 242 (.pointer (some a)) "Replace").run Tryz.prog w = .ok (332, .pointer (some a)) w := meth
  go_enter Tryz.func27, Tryz.ntmps27
  go_wp2_with (first | (go_at_call 73; refine (do_first c 0 (.pointer (some ⟨c, 0, none⟩)) _ h0 h1 f0 f1 X hf).mono ?_; rintro e w2 ⟨rfl, w1, hX1, hH, hw2⟩
                        obtain ⟨t, ht0, ht1, ht2, ht3, ht4⟩ := hX w1 hX1
                        obtain ⟨hs2, hc3, e1, e2⟩ := after_do c t ht0 w1 ht2 ht3 ht4 w2 hw2
                        have hk : ∀ w', Below w1.heap.size w2 w' → Below w1.heap.size ((w1.drew.setCell ⟨c, 0, none⟩ (.int .u32 1)).setCell ⟨c, 1, none⟩ (.int .i32 0)) w' := fun w' h => by rw [hw2] at h; exact h
                        clear hw2)
                      | (go_at_call 332; (refine (hrep w2 t (by omega) e1 e2).mono ?_; rintro e w' ⟨rfl, hbl⟩)) | fail)
  refine bodyPost_ret (results_tmp rfl _ _ _) rfl ?_
  exact ⟨rfl, w1, hX1, hk _ (by rw [← hs2]; exact hbl)⟩
end Go.Proofs.YtdnjagnechibhaaGreatDoor.So
