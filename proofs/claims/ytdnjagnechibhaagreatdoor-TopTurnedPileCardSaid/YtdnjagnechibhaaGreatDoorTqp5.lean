/- What is proved: what functions of this program answer, by the evaluator. No condition. -/
import Derived.Test.YtdnjagnechibhaaGreatDoorTqp4
set_option linter.all false
namespace Go.Proofs.YtdnjagnechibhaaGreatDoor.Vm
open Go Go.Ev
set_option maxRecDepth 100001
theorem primOk : PrimOk Tryz.prog L := by
  intro f args st r st' h us w K vs hG hr
  replace h : primPile f args st = some (r, st') := h
  unfold primPile at h
  split at h
  · next hf =>
    subst hf
    split at h
    · exact ⟨⟨_, Tryz.func28, rfl, by decide⟩, Q.turn_ok hG h vs hr⟩
    · simp at h
  · split at h
    · next hf =>
      subst hf
      split at h
      · exact ⟨⟨_, Tryz.func27, rfl, by decide⟩, Q.repl_ok hG h vs hr⟩
      · simp at h
    · simp at h
theorem libOk : LibOk Tryz.prog G L := ⟨fnsOk, primOk⟩
theorem shs_sp : ∀ l : List (Int × Int), shs (l.map spA) = some l
  | [] => rfl
  | p :: r => by simp only [List.map_cons, shs, shs_sp r]; rfl
theorem u8l_b8 : ∀ l : List Int, u8l (l.map B8) = some l
  | [] => rfl
  | p :: r => by simp only [List.map_cons, u8l, u8l_b8 r]; rfl
theorem h28 (l : List (Int × Int)) (hl : l.length = 4) (hok : SpOk l) (st : St) : run L 28 [spL l] st = some (.tup [spL (trnL l), I 0], st) :=
  run_prim rfl rfl (by
    rw [show L.prim = primPile from rfl]
    have hall : l.all (fun p => decide ((0 ≤ p.1 ∧ p.1 ≤ 50) ∧ 0 ≤ p.2 ∧ p.2 ≤ 50)) = true := List.all_eq_true.2 fun p hp => by simpa using hok p hp
    have hc : (1 ≤ l.length ∧ l.length ≤ 7) ∧ l.all (fun p => decide ((0 ≤ p.1 ∧ p.1 ≤ 50) ∧ 0 ≤ p.2 ∧ p.2 ≤ 50)) = true := ⟨by omega, hall⟩
    simp only [primPile, if_true, turnAV, shs_sp, if_pos hc]
    rfl) (Nat.le_refl _) (Nat.le_refl _)
theorem fold_let (b : Nat) : ∃ x y, foldB b = [x, y] ∧ (x = 111 ∨ x = 117) ∧ (y = 111 ∨ y = 117) := by
  refine ⟨_, _, rfl, ?_, ?_⟩ <;> split <;> simp
theorem h27 (b : Nat) (zs : List Int) (hz : zs.length = 16) : run L 27 [.ptr 1 0, stA (foldB b)] ⟨[zs.map B8, rplC 0], [4]⟩ = some (stA (turnB (foldB b)), ⟨[zs.map B8, [], []], [4]⟩) :=
  run_prim rfl rfl (by
    rw [show L.prim = primPile from rfl]
    obtain ⟨x, y, e, hx, hy⟩ := fold_let b
    rw [e]
    have h1 : primPile 27 [.ptr 1 0, stA [x, y]] ⟨[zs.map B8, rplC 0], [4]⟩ = replAV ⟨[x, y].toArray⟩ ⟨#[111]⟩ ⟨#[117]⟩ ⟨#[117]⟩ ⟨#[111]⟩ (zs.map B8) := rfl
    rw [h1]
    unfold replAV
    rw [u8l_b8]
    simp only [hz, true_and, and_self, if_true]
    rw [if_pos ⟨hx, hy⟩]
    rfl) (by simp) (Nat.le_refl _)
theorem c5 (b t : Int) (hb : Byte b) (ht : Byte t) (zs : List Int) (hz : zs.length = 16) (hzb : ∀ x ∈ zs, Byte x) (st : St) : run L 5 [B8 b, B8 t, .agg (zs.map B8)] st = some (.v (.bool true), st) :=
  c5x h28 h27 b hb t ht zs hz hzb st
end Go.Proofs.YtdnjagnechibhaaGreatDoor.Vm
