/- What is proved: what functions of this program answer, by the evaluator. No condition. -/
import Derived.Test.YtpmbfgogpcjdlaaDoorRows
import Derived.Test.YtpmbfgogpcjdlaaDoorLib
import Derived.Test.YtpmbfgogpcjdlaaDoorSy
import Derived.WalkKit
import Derived.ProofKit
import Derived.LaidMore
import Derived.OpenShut
import Derived.Stop.Joined
set_option linter.all false
namespace Go.Proofs.YtpmbfgogpcjdlaaDoor.Vm
open Go Go.Ev Go.ChangeShapes Go.WideShapes Go.ChangeAt Go.RowKit
set_option maxRecDepth 100001

def laidL : List (String × DataW Unit) := [("math/bits.deBruijn32tab", Rows.laid_math_bits_deBruijn32tab), ("math/bits.deBruijn64tab", Rows.laid_math_bits_deBruijn64tab)]
theorem g32 : Tryd.prog.globalNamed "math/bits.deBruijn32tab" = some 0 := by kernel_rfl
theorem g64 : Tryd.prog.globalNamed "math/bits.deBruijn64tab" = some 1 := by kernel_rfl
theorem t32 : (Tryd.prog.globals[0]?).map (·.type) = some 147 := by kernel_rfl
theorem t64 : (Tryd.prog.globals[1]?).map (·.type) = some 148 := by kernel_rfl
theorem laidOut : laidOutB Tryd.prog = true := by kernel_rfl

/-- The door's own heap meets the condition. -/
theorem door_met (os : Os) (args : Array Value) : laidMetH Tryd.prog laidL ((World.doorLaid Tryd.prog 19 os).forCall (fun _ _ => 0) ⟨#[], args, []⟩).memory :=
  laidMetH_of_parts3 (fuel := 8) (laidMet_of_run' 8 (by kernel_rfl) (by kernel_rfl)) (by kernel_rfl) (by kernel_rfl)

/-- A table of bytes that reads as it should holds these bytes. -/
theorem bytes_of_trod {W : World} {fuel : Nat} {t e : TypeId} {n : Nat} {cs : List Value} {bs : List Nat} {p : List MemPlace} {held : Bool} (ht : Tryd.prog.underlying t = some (.array n e)) (he : Tryd.prog.underlying e = some (.int .u8)) (hc : Tryd.prog.cellsOf e = 1) (hct : Tryd.prog.cellsOf t = n)
    (h : DataW.trod (fun _ => ()) Tryd.prog W 0 (fun _ => true) held fuel t cs = some (.agg (bs.map fun (b : Nat) => .lit (.int .u8 (b : Int))), p)) : cs = bs.map fun (b : Nat) => Value.int .u8 (b : Int) := by
  obtain ⟨xs, m, rfl, hx, hlen, hn, hel⟩ := DataW.trod_array ht h
  simp only [Prod.mk.injEq, DataW.agg.injEq] at hx
  have hbl : bs.length = n := by have := congrArg List.length hx.1; simp only [List.length_map] at this; omega
  apply List.ext_getElem
  · rw [hlen, hct, List.length_map, hbl]
  · intro i h1 h2
    have hi : i < n := by rw [hlen, hct] at h1; exact h1
    have h3 := hel i hi
    rw [hc, Nat.mul_one, List.getElem?_eq_getElem (by omega)] at h3
    obtain ⟨k, e1, e2, _⟩ := DataW.trod_int he h3
    have e3 : (cs.drop i).take 1 = [cs[i]] := by rw [List.drop_eq_getElem_cons h1]; rfl
    rw [e3] at e1
    simp only [List.cons.injEq, and_true] at e1
    have e4 : (xs.map (·.1))[i]'(by simp; omega) = (bs.map fun (b : Nat) => DataW.lit (.int .u8 (b : Int)))[i]'(by simp; omega) := by simp only [hx.1]
    simp only [List.getElem_map, e2, DataW.lit.injEq, Lit.int.injEq, true_and] at e4
    rw [e1, List.getElem_map, e4]

theorem glob_of_laid {W : World} (h : laidMetH Tryd.prog laidL W) (N : Nat) : GlobOk G (usOf N W) W := by
  rw [MakeChecks.laidMetH_plain _ _ _ (by kernel_rfl)] at h
  obtain ⟨ps, ⟨g0, t0, cs0, f0, p0, q0, hg0, ht0, hv0, hd0, ⟨g1, t1, cs1, f1, p1, q1, hg1, ht1, hv1, hd1, _, _⟩, _⟩, _, _⟩ := h
  obtain rfl := Option.some.inj (g32.symm.trans hg0)
  obtain rfl := Option.some.inj (g64.symm.trans hg1)
  obtain rfl := Option.some.inj (t32.symm.trans ht0)
  obtain rfl := Option.some.inj (t64.symm.trans ht1)
  have e1 : cs1.toList = (G 1).map fun (b : Nat) => Value.int .u8 (b : Int) := bytes_of_trod (bs := G 1) (p := p1) (t := 148) (e := 5) (n := 64) (by kernel_rfl) (by kernel_rfl) (by kernel_rfl) (by kernel_rfl) hd1
  refine globOk_of (fun g hg => ?_) N
  have cellsOf : ∀ {nm : String} {g : Nat} {cs : Array Value}, Tryd.prog.globalNamed nm = some g → W.var? Tryd.prog nm = some cs → ∃ ty fz, W.heap[g]? = some (.cells cs ty fz) := by
    intro nm g cs hg hv
    simp only [World.var?, hg, Option.bind_some] at hv
    split at hv
    · rename_i c ty fz hb
      simp only [Option.some.injEq] at hv
      subst hv
      exact ⟨ty, fz, hb⟩
    · simp at hv
  match g, hg with
  | 0, hg => exact absurd rfl hg
  | 1, _ => obtain ⟨ty, fz, hb⟩ := cellsOf g64 hv1; exact ⟨cs1, ty, fz, hb, e1⟩
  | g + 2, hg => exact absurd (show G (g + 2) = [] by unfold G kept; rw [List.find?_cons_of_neg (by simp)]; rfl) hg
/-- A law's row, out of what the evaluator answers for all arguments. -/
theorem row_post {os : Os} {f : FuncId} {fn : Func} {s : ChangeSpec} {H : Type} {enc : TypeId × Value → H} (hs : s.vars = [])
    (htys : (fn.params.toList.all fun t => (decide (t < Tryd.prog.types.size) && okTy Tryd.prog 8 t) && Tryd.prog.readableRec t) = true) (hres : fn.resultTypes = #[4])
    (hspec : ∀ ds : List (DataW H), ds.length = fn.params.size → s.fn H ds = { results := [.lit (.bool true)], args := ds })
    (hrun : ∀ vals : List AV, vals.length = fn.params.toList.length → (∀ (j : Nat) t a, fn.params.toList[j]? = some t → vals[j]? = some a → ShV Tryd.prog 8 t a) → ∃ st, run L f vals ⟨[], []⟩ = some (.v (.bool true), st))
    (W : World) (hL : laidMetH Tryd.prog laidL W) (base : Nat) (args : Array Value) (ds gs : List (DataW H)) (before : List MemPlace) (apart fresh handsOn : Bool)
    (hval : ∀ (j : Nat) t v, fn.params[j]? = some t → args[j]? = some v → Value.okWide Tryd.prog W .any base t v)
    (hW : DataW.Whole enc Tryd.prog fn.params.toList s.vars apart W args.toList ds gs before) :
    Calls Tryd.prog f args W fun e W' => ∃ v, e = .returned v ∧ s.post enc Tryd.prog fn apart fresh handsOn false W args v W' := by
  have hty : ∀ t ∈ fn.params.toList, (t < Tryd.prog.types.size ∧ okTy Tryd.prog 8 t = true) ∧ Tryd.prog.readableRec t = true := fun t ht => by
    have := List.all_eq_true.1 htys t ht
    simp only [Bool.and_eq_true, decide_eq_true_eq] at this
    exact this
  have hW' := hW
  obtain ⟨p, q, hA, hV, rfl, hfz, hnd⟩ := hW
  rw [hs] at hV
  obtain ⟨rfl, rfl⟩ := trodVars_none hV
  have hlen : ds.length = fn.params.size := by
    have : ∀ {ts : List TypeId} {vs : List Value} {ds : List (DataW H)} {ps : List MemPlace}, DataW.TrodAll enc Tryd.prog W 0 (fun _ => true) true ts vs ds ps → ds.length = ts.length := by
      intro ts
      induction ts with
      | nil => intro vs ds ps h; cases vs <;> cases ds <;> simp_all [DataW.TrodAll]
      | cons t ts ih =>
        intro vs ds ps h
        cases vs with
        | nil => simp [DataW.TrodAll] at h
        | cons v vs =>
          cases ds with
          | nil => simp [DataW.TrodAll] at h
          | cons d ds =>
            obtain ⟨_, _, _, h2, _⟩ := h
            simp [ih h2]
    simpa using this hA
  refine (law_calls mix libOk laidOut (fun t ht => (hty t ht).1) hrun (glob_of_laid hL) (fun j t v ht hv => hval j t v (by simpa using ht) (by simpa using hv)) hA).mono fun e W' ⟨he, hb⟩ => ?_
  subst he
  refine ⟨_, rfl, Go.Ev.post_of_below (pa := p) (pv := []) hW' hb (fun b sp hd => ?_) ?_ ?_ rfl⟩
  · rw [hres, List.append_nil, hspec ds hlen]
    exact trodAll_cons_mk (shut_bool Tryd.underlying4 _) trodAll_mk0
  · rw [List.append_nil, hspec ds hlen]
    exact args_below laidOut hb (fun t ht => ⟨(hty t ht).2, (hty t ht).1.1⟩) hA
  · rw [hs, List.append_nil, hspec ds hlen]; rfl
end Go.Proofs.YtpmbfgogpcjdlaaDoor.Vm
