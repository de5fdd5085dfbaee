/- What is proved: what functions of this program answer, by the evaluator. No condition. -/
import Derived.Test.YtdnjagnechibhaaGreatDoorLib
import Derived.Test.YtdnjagnechibhaaGreatDoorSy
import Derived.Test.YtdnjagnechibhaaGreatDoorProg
import Derived.RangeFuncGives
import Derived.RangeFuncBox
import Derived.RangeFuncLeaves
import Derived.Shelf.Abstract
import Derived.WalkKit
import Derived.OwnWalkIn
import Derived.TacticsInMore
import Derived.LoopNIn
import Derived.LoopIn
set_option linter.all false
namespace Go.Proofs.YtdnjagnechibhaaGreatDoor.Sb
open Go Go.RowKit Go.Shelf Go.Ev Go.Proofs
attribute [local go_sem] Oper.semAt_some
set_option linter.all false

abbrev ci (x : Int) : Value := .int .i64 x
set_option maxRecDepth 100001 in
set_option maxHeartbeats 2000000 in
theorem back1 (F : Fence) (n : Nat) (h7 : F.fn 135) (hro : F.round = none) (hn : 1 ≤ n) (l Bs n₀ b off len cap : Nat) (xs ys : Nat → Int) (hlen : len ≤ 1000) (hb : b < n₀) (J : Nat → World → Prop) (hJB : ∀ s W, J s W → W.cell? ⟨Bs, 0, none⟩ = some (.slice (some ⟨b, off, none⟩) len cap))
    (hJ : ∀ s W W', J s W → W.grownBy W' none → J s W') (hsz : ∀ s W, J s W → n₀ ≤ W.heap.size)
    (hY : ∀ k W, J k W → k < len → YieldAt F (n - 1) Tryz.prog l #[ci ((len : Int) - 1 - k), .agg #[ci (xs (len - 1 - k)), ci (ys (len - 1 - k))]] W fun e W' => e = .returned (.bool true) ∧ J (k + 1) W' ∧ Below n₀ W W')
    (W : World) (hc : ∀ j, j < len → W.cell? ⟨b, off + j * 2, none⟩ = some (ci (xs j)) ∧ W.cell? ⟨b, off + j * 2 + 1, none⟩ = some (ci (ys j))) (h0 : J 0 W) :
    CallsIn F n Tryz.prog 135 #[.func (.yield l) #[] #[], .pointer (some ⟨Bs, 0, none⟩)] W fun e W' => (∃ v, e = .returned v) ∧ J len W' := by
  refine callsIn_of_wp Tryz.func135 rfl h7 ?_ hro
  simp only [Tryz.ntmps135, List.size_toArray, List.length_cons, List.length_nil, Nat.reduceAdd, Nat.reduceSub, Array.replicate_succ, Array.replicate_zero, List.push_toArray, List.append_toArray, List.nil_append, List.cons_append]
  have hBs := hJB 0 W h0
  have hw0 : IntKind.i64.wrap ((len : Int) - 1) = (len : Int) - 1 := by rw [Go.Ev.wrap64] <;> omega
  gi_wp2
  gi_loopw [3] (fun i wr => ∃ k : Nat, k ≤ len ∧ i = ci ((len : Int) - 1 - k) ∧ J k wr ∧ Below n₀ W wr)
    (fun i _ => (intOf i + 1).toNat)
  case atStart => exact ⟨0, Nat.zero_le _, by simp, h0, Below.refl _ _⟩
  case round =>
    obtain ⟨k, hk, rfl, hJs, hnx⟩ := hrel
    have hBx := hJB k wr hJs
    by_cases hlt : k < len
    · have hix : ((len : Int) - 1 - k) = ((len - 1 - k : Nat) : Int) := by omega
      have hcx := (hnx.cell (p := ⟨b, off + (len - 1 - k) * 2, none⟩) hb).trans (hc (len - 1 - k) (by omega)).1
      have hcy := (hnx.cell (p := ⟨b, off + (len - 1 - k) * 2 + 1, none⟩) hb).trans (hc (len - 1 - k) (by omega)).2
      have hw1 : IntKind.i64.wrap ((len : Int) - 1 - k - 1) = (len : Int) - 1 - (k + 1 : Nat) := by rw [Go.Ev.wrap64] <;> omega
      obtain ⟨fn, tmps, assign, body, hy, hR⟩ := hY k wr hJs hlt
      rw [hix] at *
      gi_wp2
      refine hR.mono ?_
      rintro e W3 ⟨rfl, hJ3, hk3⟩
      gi_wp2
      go_roundw
      case rel => exact ⟨k + 1, by omega, by simpa using hw1, hJ3, hnx.trans hk3⟩
      case measure => simp [intOf]; omega
    · obtain rfl : k = len := by omega
      gi_wp2
      go_end0
      exact ⟨⟨_, rfl⟩, hJs⟩
end Go.Proofs.YtdnjagnechibhaaGreatDoor.Sb
