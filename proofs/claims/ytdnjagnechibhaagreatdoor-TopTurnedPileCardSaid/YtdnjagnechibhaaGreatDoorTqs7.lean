/- What is proved: what functions of this program answer, by the evaluator. No condition. -/
import Derived.Test.YtdnjagnechibhaaGreatDoorTqs6
import Derived.Lib.ConvBytes
import Derived.Lib.AtoiErrMem
import Derived.Laws.BytesString
set_option linter.all false
namespace Go.Proofs.YtdnjagnechibhaaGreatDoor.So
open Go Go.RowKit Go.Shelf Go.Ev Go.Proofs
attribute [local go_sem] Oper.semAt_some
set_option linter.all false

abbrev ci (x : Int) : Value := .int .i64 x
abbrev ub (x : Int) : Value := .int .u8 x
theorem at0a (x : UInt8) (h) : ((⟨#[111, x]⟩ : ByteArray)[0]'h).toNat = 111 := rfl
theorem at0b (x : UInt8) (h) : ((⟨#[117, x]⟩ : ByteArray)[0]'h).toNat = 117 := rfl
theorem at1a (x : UInt8) (h) : ((⟨#[x, 111]⟩ : ByteArray)[1]'h).toNat = 111 := rfl
theorem at1b (x : UInt8) (h) : ((⟨#[x, 117]⟩ : ByteArray)[1]'h).toNat = 117 := rfl
attribute [local go_sem] at0a at0b at1a at1b
theorem fz (w : World) (s : ByteArray) (j : Nat) (h : j < (Lib.bytesCells w 5 s).size) : (Lib.bytesWorld w 5 s).frozen? ⟨w.heap.size, j, none⟩ = false := by
  simp only [World.frozen?, Lib.bytesWorld_at_new]
  simp
  omega
theorem eqn0 (w : World) : (binOp .eql 25 (.slice none 0 0) (.slice none 0 0)).run Tryz.prog w = .ok (.bool true) w := by kernel_rfl
theorem eqn1 (w : World) (a : Addr) (l c : Nat) : (binOp .eql 25 (.slice (some a) l c) (.slice none 0 0)).run Tryz.prog w = .ok (.bool false) w := by kernel_rfl
attribute [local go_sem] eqn0 eqn1
set_option maxRecDepth 100001 in
set_option maxHeartbeats 4000000 in
theorem repl_111_111 (F : Fence) (n : Nat) (h332 : F.fn 332) (hro : F.round = none) (t : Nat) (w : World) (ht : t < w.heap.size)
    (ca : w.cell? ⟨t, 111, none⟩ = some (ub 117)) (cb : w.cell? ⟨t, 117, none⟩ = some (ub 111)) :
    CallsIn F n Tryz.prog 332 #[.pointer (some ⟨t, 0, none⟩), .string ⟨#[111, 111]⟩] w fun e w' => e = .returned (.string ⟨#[117, 117]⟩) ∧ Below w.heap.size w w' := by
  refine callsIn_of_wp Tryz.func332 rfl h332 ?_ hro
  simp only [Tryz.ntmps332, List.size_toArray, List.length_cons, List.length_nil, Nat.reduceAdd, Nat.reduceSub, Array.replicate_succ, Array.replicate_zero, List.push_toArray, List.append_toArray, List.nil_append, List.cons_append]
  gi_wp2
  obtain ⟨W1, hW1⟩ : ∃ W1, Lib.bytesWorld w 5 ⟨#[111, 111]⟩ = W1 := ⟨_, rfl⟩
  obtain ⟨cp, hcp⟩ : ∃ cp, grownCap w 2 0 5 = cp := ⟨_, rfl⟩
  have hconv : (convert 9 25 (.string ⟨#[111, 111]⟩)).run Tryz.prog w = .ok (.slice (some ⟨w.heap.size, 0, none⟩) 2 cp) W1 := by
    rw [← hW1, ← hcp]
    exact Lib.run_convert_string_bytes w 9 25 5 ⟨#[111, 111]⟩ Tryz.underlying9 Tryz.underlying25 Tryz.underlying5
  have hbl1 : Below w.heap.size w W1 := by rw [← hW1]; exact Lib.bytesWorld_below w 5 ⟨#[111, 111]⟩
  have hz1 : W1.heap.size = w.heap.size + 1 := by rw [← hW1]; exact Lib.bytesWorld_size w 5 ⟨#[111, 111]⟩
  have d0 : W1.cell? ⟨w.heap.size, 0, none⟩ = some (ub 111) := by rw [← hW1]; exact Lib.bytesWorld_cell w 5 ⟨#[111, 111]⟩ 0 (by decide)
  have d1 : W1.cell? ⟨w.heap.size, 1, none⟩ = some (ub 111) := by rw [← hW1]; exact Lib.bytesWorld_cell w 5 ⟨#[111, 111]⟩ 1 (by decide)
  have hsz : 2 ≤ (Lib.bytesCells w 5 ⟨#[111, 111]⟩).size := by simp [Lib.bytesCells]
  have e0 : W1.frozen? ⟨w.heap.size, 0, none⟩ = false := by
    rw [← hW1]; exact fz w _ 0 (by omega)
  have e1 : W1.frozen? ⟨w.heap.size, 1, none⟩ = false := by
    rw [← hW1]; exact fz w _ 1 (by omega)
  have ca1 : W1.cell? ⟨t, 111, none⟩ = some (ub 117) := (hbl1.cell (p := ⟨t, 111, none⟩) ht).trans ca
  have cb1 : W1.cell? ⟨t, 117, none⟩ = some (ub 111) := (hbl1.cell (p := ⟨t, 117, none⟩) ht).trans cb
  clear hW1
  have hnt : t ≠ w.heap.size := by omega
  have nb : ∀ (j k : Nat), (⟨w.heap.size, k, none⟩ : Addr) ≠ ⟨t, j, none⟩ := fun j k h => hnt (congrArg Addr.block h).symm
  have nb' : ∀ (j k : Nat), (⟨t, j, none⟩ : Addr) ≠ ⟨w.heap.size, k, none⟩ := fun j k h => hnt (congrArg Addr.block h)
  obtain ⟨W2, hW2⟩ : ∃ W2, W1.setCell ⟨w.heap.size, 0, none⟩ (ub 117) = W2 := ⟨_, rfl⟩
  have ca2 : W2.cell? ⟨t, 111, none⟩ = some (ub 117) := by rw [← hW2]; exact (World.cell?_setCell_other _ _ _ _ (by first | exact nb _ _ | exact nb' _ _)).trans ca1
  have cb2 : W2.cell? ⟨t, 117, none⟩ = some (ub 111) := by rw [← hW2]; exact (World.cell?_setCell_other _ _ _ _ (by first | exact nb _ _ | exact nb' _ _)).trans cb1
  have d2 : W2.cell? ⟨w.heap.size, 0, none⟩ = some (ub 117) := by rw [← hW2]; exact World.cell?_setCell_same _ _ _ d0
  have d3 : W2.cell? ⟨w.heap.size, 1, none⟩ = some (ub 111) := by rw [← hW2]; exact (World.cell?_setCell_other _ _ _ _ (by simp)).trans d1
  have e3 : W2.frozen? ⟨w.heap.size, 1, none⟩ = false := by rw [← hW2]; simpa using e1
  obtain ⟨W3, hW3⟩ : ∃ W3, W2.setCell ⟨w.heap.size, 1, none⟩ (ub 117) = W3 := ⟨_, rfl⟩
  have d4 : W3.cell? ⟨w.heap.size, 0, none⟩ = some (ub 117) := by rw [← hW3]; exact (World.cell?_setCell_other _ _ _ _ (by simp)).trans d2
  have d5 : W3.cell? ⟨w.heap.size, 1, none⟩ = some (ub 117) := by rw [← hW3]; exact World.cell?_setCell_same _ _ _ d3
  have hbl3 : Below w.heap.size w W3 := by rw [← hW3, ← hW2]; exact (hbl1.setCell (Nat.le_refl _) _).setCell (Nat.le_refl _) _
  have hload := run_loadCells_list (P := Tryz.prog) W3 ⟨w.heap.size, 0, none⟩ ([117, 117].map (Value.int .u8)) (fun j v hj => by
    match j, hj with
    | 0, hj => simp at hj; subst hj; simpa [Addr.add] using d4
    | 1, hj => simp at hj; subst hj; simpa [Addr.add] using d5)
  have hback : (convert 25 9 (.slice (some ⟨w.heap.size, 0, none⟩) 2 cp)).run Tryz.prog W3 = .ok (.string ⟨#[117, 117]⟩) W3 := by
    rw [run_convert_bytes_string W3 25 9 5 _ _ _ Tryz.underlying25 Tryz.underlying5 Tryz.underlying9]
    exact run_bytesToString (P := Tryz.prog) W3 ⟨w.heap.size, 0, none⟩ 2 cp [117, 117] hload
  gi_loopw [5, 6] (fun bf i wr => (bf = .slice none 0 0 ∧ i = ci 0 ∧ wr = w) ∨ (bf = .slice (some ⟨w.heap.size, 0, none⟩) 2 cp ∧ i = ci 1 ∧ wr = W2) ∨ (bf = .slice (some ⟨w.heap.size, 0, none⟩) 2 cp ∧ i = ci 2 ∧ wr = W3))
    (fun _ i _ => (2 - intOf i).toNat)
  case atStart => exact .inl ⟨rfl, rfl, rfl⟩
  case round =>
    rcases hrel with ⟨rfl, rfl, hwr⟩ | ⟨rfl, rfl, hwr⟩ | ⟨rfl, rfl, hwr⟩
    · rw [hwr]
      gi_wp2
      exact ⟨.inr (.inl ⟨rfl, rfl, trivial⟩), by decide⟩
    · rw [hwr]
      gi_wp2
      exact ⟨.inr (.inr ⟨rfl, rfl, trivial⟩), by decide⟩
    · rw [hwr]
      gi_wp2
      refine bodyPost_ret (results_tmp rfl _ _ _) rfl ?_
      exact ⟨rfl, hbl3⟩
set_option maxRecDepth 100001 in
set_option maxHeartbeats 4000000 in
theorem repl_111_117 (F : Fence) (n : Nat) (h332 : F.fn 332) (hro : F.round = none) (t : Nat) (w : World) (ht : t < w.heap.size)
    (ca : w.cell? ⟨t, 111, none⟩ = some (ub 117)) (cb : w.cell? ⟨t, 117, none⟩ = some (ub 111)) :
    CallsIn F n Tryz.prog 332 #[.pointer (some ⟨t, 0, none⟩), .string ⟨#[111, 117]⟩] w fun e w' => e = .returned (.string ⟨#[117, 111]⟩) ∧ Below w.heap.size w w' := by
  refine callsIn_of_wp Tryz.func332 rfl h332 ?_ hro
  simp only [Tryz.ntmps332, List.size_toArray, List.length_cons, List.length_nil, Nat.reduceAdd, Nat.reduceSub, Array.replicate_succ, Array.replicate_zero, List.push_toArray, List.append_toArray, List.nil_append, List.cons_append]
  gi_wp2
  obtain ⟨W1, hW1⟩ : ∃ W1, Lib.bytesWorld w 5 ⟨#[111, 117]⟩ = W1 := ⟨_, rfl⟩
  obtain ⟨cp, hcp⟩ : ∃ cp, grownCap w 2 0 5 = cp := ⟨_, rfl⟩
  have hconv : (convert 9 25 (.string ⟨#[111, 117]⟩)).run Tryz.prog w = .ok (.slice (some ⟨w.heap.size, 0, none⟩) 2 cp) W1 := by
    rw [← hW1, ← hcp]
    exact Lib.run_convert_string_bytes w 9 25 5 ⟨#[111, 117]⟩ Tryz.underlying9 Tryz.underlying25 Tryz.underlying5
  have hbl1 : Below w.heap.size w W1 := by rw [← hW1]; exact Lib.bytesWorld_below w 5 ⟨#[111, 117]⟩
  have hz1 : W1.heap.size = w.heap.size + 1 := by rw [← hW1]; exact Lib.bytesWorld_size w 5 ⟨#[111, 117]⟩
  have d0 : W1.cell? ⟨w.heap.size, 0, none⟩ = some (ub 111) := by rw [← hW1]; exact Lib.bytesWorld_cell w 5 ⟨#[111, 117]⟩ 0 (by decide)
  have d1 : W1.cell? ⟨w.heap.size, 1, none⟩ = some (ub 117) := by rw [← hW1]; exact Lib.bytesWorld_cell w 5 ⟨#[111, 117]⟩ 1 (by decide)
  have hsz : 2 ≤ (Lib.bytesCells w 5 ⟨#[111, 117]⟩).size := by simp [Lib.bytesCells]
  have e0 : W1.frozen? ⟨w.heap.size, 0, none⟩ = false := by
    rw [← hW1]; exact fz w _ 0 (by omega)
  have e1 : W1.frozen? ⟨w.heap.size, 1, none⟩ = false := by
    rw [← hW1]; exact fz w _ 1 (by omega)
  have ca1 : W1.cell? ⟨t, 111, none⟩ = some (ub 117) := (hbl1.cell (p := ⟨t, 111, none⟩) ht).trans ca
  have cb1 : W1.cell? ⟨t, 117, none⟩ = some (ub 111) := (hbl1.cell (p := ⟨t, 117, none⟩) ht).trans cb
  clear hW1
  have hnt : t ≠ w.heap.size := by omega
  have nb : ∀ (j k : Nat), (⟨w.heap.size, k, none⟩ : Addr) ≠ ⟨t, j, none⟩ := fun j k h => hnt (congrArg Addr.block h).symm
  have nb' : ∀ (j k : Nat), (⟨t, j, none⟩ : Addr) ≠ ⟨w.heap.size, k, none⟩ := fun j k h => hnt (congrArg Addr.block h)
  obtain ⟨W2, hW2⟩ : ∃ W2, W1.setCell ⟨w.heap.size, 0, none⟩ (ub 117) = W2 := ⟨_, rfl⟩
  have ca2 : W2.cell? ⟨t, 111, none⟩ = some (ub 117) := by rw [← hW2]; exact (World.cell?_setCell_other _ _ _ _ (by first | exact nb _ _ | exact nb' _ _)).trans ca1
  have cb2 : W2.cell? ⟨t, 117, none⟩ = some (ub 111) := by rw [← hW2]; exact (World.cell?_setCell_other _ _ _ _ (by first | exact nb _ _ | exact nb' _ _)).trans cb1
  have d2 : W2.cell? ⟨w.heap.size, 0, none⟩ = some (ub 117) := by rw [← hW2]; exact World.cell?_setCell_same _ _ _ d0
  have d3 : W2.cell? ⟨w.heap.size, 1, none⟩ = some (ub 117) := by rw [← hW2]; exact (World.cell?_setCell_other _ _ _ _ (by simp)).trans d1
  have e3 : W2.frozen? ⟨w.heap.size, 1, none⟩ = false := by rw [← hW2]; simpa using e1
  obtain ⟨W3, hW3⟩ : ∃ W3, W2.setCell ⟨w.heap.size, 1, none⟩ (ub 111) = W3 := ⟨_, rfl⟩
  have d4 : W3.cell? ⟨w.heap.size, 0, none⟩ = some (ub 117) := by rw [← hW3]; exact (World.cell?_setCell_other _ _ _ _ (by simp)).trans d2
  have d5 : W3.cell? ⟨w.heap.size, 1, none⟩ = some (ub 111) := by rw [← hW3]; exact World.cell?_setCell_same _ _ _ d3
  have hbl3 : Below w.heap.size w W3 := by rw [← hW3, ← hW2]; exact (hbl1.setCell (Nat.le_refl _) _).setCell (Nat.le_refl _) _
  have hload := run_loadCells_list (P := Tryz.prog) W3 ⟨w.heap.size, 0, none⟩ ([117, 111].map (Value.int .u8)) (fun j v hj => by
    match j, hj with
    | 0, hj => simp at hj; subst hj; simpa [Addr.add] using d4
    | 1, hj => simp at hj; subst hj; simpa [Addr.add] using d5)
  have hback : (convert 25 9 (.slice (some ⟨w.heap.size, 0, none⟩) 2 cp)).run Tryz.prog W3 = .ok (.string ⟨#[117, 111]⟩) W3 := by
    rw [run_convert_bytes_string W3 25 9 5 _ _ _ Tryz.underlying25 Tryz.underlying5 Tryz.underlying9]
    exact run_bytesToString (P := Tryz.prog) W3 ⟨w.heap.size, 0, none⟩ 2 cp [117, 111] hload
  gi_loopw [5, 6] (fun bf i wr => (bf = .slice none 0 0 ∧ i = ci 0 ∧ wr = w) ∨ (bf = .slice (some ⟨w.heap.size, 0, none⟩) 2 cp ∧ i = ci 1 ∧ wr = W2) ∨ (bf = .slice (some ⟨w.heap.size, 0, none⟩) 2 cp ∧ i = ci 2 ∧ wr = W3))
    (fun _ i _ => (2 - intOf i).toNat)
  case atStart => exact .inl ⟨rfl, rfl, rfl⟩
  case round =>
    rcases hrel with ⟨rfl, rfl, hwr⟩ | ⟨rfl, rfl, hwr⟩ | ⟨rfl, rfl, hwr⟩
    · rw [hwr]
      gi_wp2
      exact ⟨.inr (.inl ⟨rfl, rfl, trivial⟩), by decide⟩
    · rw [hwr]
      gi_wp2
      exact ⟨.inr (.inr ⟨rfl, rfl, trivial⟩), by decide⟩
    · rw [hwr]
      gi_wp2
      refine bodyPost_ret (results_tmp rfl _ _ _) rfl ?_
      exact ⟨rfl, hbl3⟩
set_option maxRecDepth 100001 in
set_option maxHeartbeats 4000000 in
theorem repl_117_111 (F : Fence) (n : Nat) (h332 : F.fn 332) (hro : F.round = none) (t : Nat) (w : World) (ht : t < w.heap.size)
    (ca : w.cell? ⟨t, 111, none⟩ = some (ub 117)) (cb : w.cell? ⟨t, 117, none⟩ = some (ub 111)) :
    CallsIn F n Tryz.prog 332 #[.pointer (some ⟨t, 0, none⟩), .string ⟨#[117, 111]⟩] w fun e w' => e = .returned (.string ⟨#[111, 117]⟩) ∧ Below w.heap.size w w' := by
  refine callsIn_of_wp Tryz.func332 rfl h332 ?_ hro
  simp only [Tryz.ntmps332, List.size_toArray, List.length_cons, List.length_nil, Nat.reduceAdd, Nat.reduceSub, Array.replicate_succ, Array.replicate_zero, List.push_toArray, List.append_toArray, List.nil_append, List.cons_append]
  gi_wp2
  obtain ⟨W1, hW1⟩ : ∃ W1, Lib.bytesWorld w 5 ⟨#[117, 111]⟩ = W1 := ⟨_, rfl⟩
  obtain ⟨cp, hcp⟩ : ∃ cp, grownCap w 2 0 5 = cp := ⟨_, rfl⟩
  have hconv : (convert 9 25 (.string ⟨#[117, 111]⟩)).run Tryz.prog w = .ok (.slice (some ⟨w.heap.size, 0, none⟩) 2 cp) W1 := by
    rw [← hW1, ← hcp]
    exact Lib.run_convert_string_bytes w 9 25 5 ⟨#[117, 111]⟩ Tryz.underlying9 Tryz.underlying25 Tryz.underlying5
  have hbl1 : Below w.heap.size w W1 := by rw [← hW1]; exact Lib.bytesWorld_below w 5 ⟨#[117, 111]⟩
  have hz1 : W1.heap.size = w.heap.size + 1 := by rw [← hW1]; exact Lib.bytesWorld_size w 5 ⟨#[117, 111]⟩
  have d0 : W1.cell? ⟨w.heap.size, 0, none⟩ = some (ub 117) := by rw [← hW1]; exact Lib.bytesWorld_cell w 5 ⟨#[117, 111]⟩ 0 (by decide)
  have d1 : W1.cell? ⟨w.heap.size, 1, none⟩ = some (ub 111) := by rw [← hW1]; exact Lib.bytesWorld_cell w 5 ⟨#[117, 111]⟩ 1 (by decide)
  have hsz : 2 ≤ (Lib.bytesCells w 5 ⟨#[117, 111]⟩).size := by simp [Lib.bytesCells]
  have e0 : W1.frozen? ⟨w.heap.size, 0, none⟩ = false := by
    rw [← hW1]; exact fz w _ 0 (by omega)
  have e1 : W1.frozen? ⟨w.heap.size, 1, none⟩ = false := by
    rw [← hW1]; exact fz w _ 1 (by omega)
  have ca1 : W1.cell? ⟨t, 111, none⟩ = some (ub 117) := (hbl1.cell (p := ⟨t, 111, none⟩) ht).trans ca
  have cb1 : W1.cell? ⟨t, 117, none⟩ = some (ub 111) := (hbl1.cell (p := ⟨t, 117, none⟩) ht).trans cb
  clear hW1
  have hnt : t ≠ w.heap.size := by omega
  have nb : ∀ (j k : Nat), (⟨w.heap.size, k, none⟩ : Addr) ≠ ⟨t, j, none⟩ := fun j k h => hnt (congrArg Addr.block h).symm
  have nb' : ∀ (j k : Nat), (⟨t, j, none⟩ : Addr) ≠ ⟨w.heap.size, k, none⟩ := fun j k h => hnt (congrArg Addr.block h)
  obtain ⟨W2, hW2⟩ : ∃ W2, W1.setCell ⟨w.heap.size, 0, none⟩ (ub 111) = W2 := ⟨_, rfl⟩
  have ca2 : W2.cell? ⟨t, 111, none⟩ = some (ub 117) := by rw [← hW2]; exact (World.cell?_setCell_other _ _ _ _ (by first | exact nb _ _ | exact nb' _ _)).trans ca1
  have cb2 : W2.cell? ⟨t, 117, none⟩ = some (ub 111) := by rw [← hW2]; exact (World.cell?_setCell_other _ _ _ _ (by first | exact nb _ _ | exact nb' _ _)).trans cb1
  have d2 : W2.cell? ⟨w.heap.size, 0, none⟩ = some (ub 111) := by rw [← hW2]; exact World.cell?_setCell_same _ _ _ d0
  have d3 : W2.cell? ⟨w.heap.size, 1, none⟩ = some (ub 111) := by rw [← hW2]; exact (World.cell?_setCell_other _ _ _ _ (by simp)).trans d1
  have e3 : W2.frozen? ⟨w.heap.size, 1, none⟩ = false := by rw [← hW2]; simpa using e1
  obtain ⟨W3, hW3⟩ : ∃ W3, W2.setCell ⟨w.heap.size, 1, none⟩ (ub 117) = W3 := ⟨_, rfl⟩
  have d4 : W3.cell? ⟨w.heap.size, 0, none⟩ = some (ub 111) := by rw [← hW3]; exact (World.cell?_setCell_other _ _ _ _ (by simp)).trans d2
  have d5 : W3.cell? ⟨w.heap.size, 1, none⟩ = some (ub 117) := by rw [← hW3]; exact World.cell?_setCell_same _ _ _ d3
  have hbl3 : Below w.heap.size w W3 := by rw [← hW3, ← hW2]; exact (hbl1.setCell (Nat.le_refl _) _).setCell (Nat.le_refl _) _
  have hload := run_loadCells_list (P := Tryz.prog) W3 ⟨w.heap.size, 0, none⟩ ([111, 117].map (Value.int .u8)) (fun j v hj => by
    match j, hj with
    | 0, hj => simp at hj; subst hj; simpa [Addr.add] using d4
    | 1, hj => simp at hj; subst hj; simpa [Addr.add] using d5)
  have hback : (convert 25 9 (.slice (some ⟨w.heap.size, 0, none⟩) 2 cp)).run Tryz.prog W3 = .ok (.string ⟨#[111, 117]⟩) W3 := by
    rw [run_convert_bytes_string W3 25 9 5 _ _ _ Tryz.underlying25 Tryz.underlying5 Tryz.underlying9]
    exact run_bytesToString (P := Tryz.prog) W3 ⟨w.heap.size, 0, none⟩ 2 cp [111, 117] hload
  gi_loopw [5, 6] (fun bf i wr => (bf = .slice none 0 0 ∧ i = ci 0 ∧ wr = w) ∨ (bf = .slice (some ⟨w.heap.size, 0, none⟩) 2 cp ∧ i = ci 1 ∧ wr = W2) ∨ (bf = .slice (some ⟨w.heap.size, 0, none⟩) 2 cp ∧ i = ci 2 ∧ wr = W3))
    (fun _ i _ => (2 - intOf i).toNat)
  case atStart => exact .inl ⟨rfl, rfl, rfl⟩
  case round =>
    rcases hrel with ⟨rfl, rfl, hwr⟩ | ⟨rfl, rfl, hwr⟩ | ⟨rfl, rfl, hwr⟩
    · rw [hwr]
      gi_wp2
      exact ⟨.inr (.inl ⟨rfl, rfl, trivial⟩), by decide⟩
    · rw [hwr]
      gi_wp2
      exact ⟨.inr (.inr ⟨rfl, rfl, trivial⟩), by decide⟩
    · rw [hwr]
      gi_wp2
      refine bodyPost_ret (results_tmp rfl _ _ _) rfl ?_
      exact ⟨rfl, hbl3⟩
set_option maxRecDepth 100001 in
set_option maxHeartbeats 4000000 in
theorem repl_117_117 (F : Fence) (n : Nat) (h332 : F.fn 332) (hro : F.round = none) (t : Nat) (w : World) (ht : t < w.heap.size)
    (ca : w.cell? ⟨t, 111, none⟩ = some (ub 117)) (cb : w.cell? ⟨t, 117, none⟩ = some (ub 111)) :
    CallsIn F n Tryz.prog 332 #[.pointer (some ⟨t, 0, none⟩), .string ⟨#[117, 117]⟩] w fun e w' => e = .returned (.string ⟨#[111, 111]⟩) ∧ Below w.heap.size w w' := by
  refine callsIn_of_wp Tryz.func332 rfl h332 ?_ hro
  simp only [Tryz.ntmps332, List.size_toArray, List.length_cons, List.length_nil, Nat.reduceAdd, Nat.reduceSub, Array.replicate_succ, Array.replicate_zero, List.push_toArray, List.append_toArray, List.nil_append, List.cons_append]
  gi_wp2
  obtain ⟨W1, hW1⟩ : ∃ W1, Lib.bytesWorld w 5 ⟨#[117, 117]⟩ = W1 := ⟨_, rfl⟩
  obtain ⟨cp, hcp⟩ : ∃ cp, grownCap w 2 0 5 = cp := ⟨_, rfl⟩
  have hconv : (convert 9 25 (.string ⟨#[117, 117]⟩)).run Tryz.prog w = .ok (.slice (some ⟨w.heap.size, 0, none⟩) 2 cp) W1 := by
    rw [← hW1, ← hcp]
    exact Lib.run_convert_string_bytes w 9 25 5 ⟨#[117, 117]⟩ Tryz.underlying9 Tryz.underlying25 Tryz.underlying5
  have hbl1 : Below w.heap.size w W1 := by rw [← hW1]; exact Lib.bytesWorld_below w 5 ⟨#[117, 117]⟩
  have hz1 : W1.heap.size = w.heap.size + 1 := by rw [← hW1]; exact Lib.bytesWorld_size w 5 ⟨#[117, 117]⟩
  have d0 : W1.cell? ⟨w.heap.size, 0, none⟩ = some (ub 117) := by rw [← hW1]; exact Lib.bytesWorld_cell w 5 ⟨#[117, 117]⟩ 0 (by decide)
  have d1 : W1.cell? ⟨w.heap.size, 1, none⟩ = some (ub 117) := by rw [← hW1]; exact Lib.bytesWorld_cell w 5 ⟨#[117, 117]⟩ 1 (by decide)
  have hsz : 2 ≤ (Lib.bytesCells w 5 ⟨#[117, 117]⟩).size := by simp [Lib.bytesCells]
  have e0 : W1.frozen? ⟨w.heap.size, 0, none⟩ = false := by
    rw [← hW1]; exact fz w _ 0 (by omega)
  have e1 : W1.frozen? ⟨w.heap.size, 1, none⟩ = false := by
    rw [← hW1]; exact fz w _ 1 (by omega)
  have ca1 : W1.cell? ⟨t, 111, none⟩ = some (ub 117) := (hbl1.cell (p := ⟨t, 111, none⟩) ht).trans ca
  have cb1 : W1.cell? ⟨t, 117, none⟩ = some (ub 111) := (hbl1.cell (p := ⟨t, 117, none⟩) ht).trans cb
  clear hW1
  have hnt : t ≠ w.heap.size := by omega
  have nb : ∀ (j k : Nat), (⟨w.heap.size, k, none⟩ : Addr) ≠ ⟨t, j, none⟩ := fun j k h => hnt (congrArg Addr.block h).symm
  have nb' : ∀ (j k : Nat), (⟨t, j, none⟩ : Addr) ≠ ⟨w.heap.size, k, none⟩ := fun j k h => hnt (congrArg Addr.block h)
  obtain ⟨W2, hW2⟩ : ∃ W2, W1.setCell ⟨w.heap.size, 0, none⟩ (ub 111) = W2 := ⟨_, rfl⟩
  have ca2 : W2.cell? ⟨t, 111, none⟩ = some (ub 117) := by rw [← hW2]; exact (World.cell?_setCell_other _ _ _ _ (by first | exact nb _ _ | exact nb' _ _)).trans ca1
  have cb2 : W2.cell? ⟨t, 117, none⟩ = some (ub 111) := by rw [← hW2]; exact (World.cell?_setCell_other _ _ _ _ (by first | exact nb _ _ | exact nb' _ _)).trans cb1
  have d2 : W2.cell? ⟨w.heap.size, 0, none⟩ = some (ub 111) := by rw [← hW2]; exact World.cell?_setCell_same _ _ _ d0
  have d3 : W2.cell? ⟨w.heap.size, 1, none⟩ = some (ub 117) := by rw [← hW2]; exact (World.cell?_setCell_other _ _ _ _ (by simp)).trans d1
  have e3 : W2.frozen? ⟨w.heap.size, 1, none⟩ = false := by rw [← hW2]; simpa using e1
  obtain ⟨W3, hW3⟩ : ∃ W3, W2.setCell ⟨w.heap.size, 1, none⟩ (ub 111) = W3 := ⟨_, rfl⟩
  have d4 : W3.cell? ⟨w.heap.size, 0, none⟩ = some (ub 111) := by rw [← hW3]; exact (World.cell?_setCell_other _ _ _ _ (by simp)).trans d2
  have d5 : W3.cell? ⟨w.heap.size, 1, none⟩ = some (ub 111) := by rw [← hW3]; exact World.cell?_setCell_same _ _ _ d3
  have hbl3 : Below w.heap.size w W3 := by rw [← hW3, ← hW2]; exact (hbl1.setCell (Nat.le_refl _) _).setCell (Nat.le_refl _) _
  have hload := run_loadCells_list (P := Tryz.prog) W3 ⟨w.heap.size, 0, none⟩ ([111, 111].map (Value.int .u8)) (fun j v hj => by
    match j, hj with
    | 0, hj => simp at hj; subst hj; simpa [Addr.add] using d4
    | 1, hj => simp at hj; subst hj; simpa [Addr.add] using d5)
  have hback : (convert 25 9 (.slice (some ⟨w.heap.size, 0, none⟩) 2 cp)).run Tryz.prog W3 = .ok (.string ⟨#[111, 111]⟩) W3 := by
    rw [run_convert_bytes_string W3 25 9 5 _ _ _ Tryz.underlying25 Tryz.underlying5 Tryz.underlying9]
    exact run_bytesToString (P := Tryz.prog) W3 ⟨w.heap.size, 0, none⟩ 2 cp [111, 111] hload
  gi_loopw [5, 6] (fun bf i wr => (bf = .slice none 0 0 ∧ i = ci 0 ∧ wr = w) ∨ (bf = .slice (some ⟨w.heap.size, 0, none⟩) 2 cp ∧ i = ci 1 ∧ wr = W2) ∨ (bf = .slice (some ⟨w.heap.size, 0, none⟩) 2 cp ∧ i = ci 2 ∧ wr = W3))
    (fun _ i _ => (2 - intOf i).toNat)
  case atStart => exact .inl ⟨rfl, rfl, rfl⟩
  case round =>
    rcases hrel with ⟨rfl, rfl, hwr⟩ | ⟨rfl, rfl, hwr⟩ | ⟨rfl, rfl, hwr⟩
    · rw [hwr]
      gi_wp2
      exact ⟨.inr (.inl ⟨rfl, rfl, trivial⟩), by decide⟩
    · rw [hwr]
      gi_wp2
      exact ⟨.inr (.inr ⟨rfl, rfl, trivial⟩), by decide⟩
    · rw [hwr]
      gi_wp2
      refine bodyPost_ret (results_tmp rfl _ _ _) rfl ?_
      exact ⟨rfl, hbl3⟩
theorem repl (w : World) (t : Nat) (ht : t < w.heap.size) (ca : w.cell? ⟨t, 111, none⟩ = some (ub 117)) (cb : w.cell? ⟨t, 117, none⟩ = some (ub 111)) (a b : UInt8) (ha : a = 111 ∨ a = 117) (hb : b = 111 ∨ b = 117) :
    Calls Tryz.prog 332 #[.pointer (some ⟨t, 0, none⟩), .string ⟨#[a, b]⟩] w fun e w' => e = .returned (.string ⟨#[if a = 111 then 117 else 111, if b = 111 then 117 else 111]⟩) ∧ Below w.heap.size w w' := by
  rw [← callsIn_wide (n := 1)]
  rcases ha with rfl | rfl <;> rcases hb with rfl | rfl
  · exact repl_111_111 Fence.wide 1 trivial rfl t w ht ca cb
  · exact repl_111_117 Fence.wide 1 trivial rfl t w ht ca cb
  · exact repl_117_111 Fence.wide 1 trivial rfl t w ht ca cb
  · exact repl_117_117 Fence.wide 1 trivial rfl t w ht ca cb
end Go.Proofs.YtdnjagnechibhaaGreatDoor.So
