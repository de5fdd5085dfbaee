/- What is proved: what functions of this program answer, by the evaluator. No condition. -/
import Derived.Test.YtpmbfgogpcjdlaaDoorFkd
import Derived.KernelRfl
set_option linter.all false
namespace Go.Proofs.YtpmbfgogpcjdlaaDoor.Vm
open Go Go.Ev
set_option maxRecDepth 100001
theorem k17_0 (st : St) : run L 17 [kB] st = some (.tup [.lst .any 1 [I 0, I 1], I 0], st) :=
  run_any (fn := ir17) rfl rfl (callAV_run L 300 _ _ _ _ (show callAV L 300 17 [kB] ⟨[], []⟩ = some (.tup [.lst .any 1 [I 0, I 1], I 0], ⟨[], []⟩) by kernel_rfl)) st
theorem k17_1 (st : St) : run L 17 [kA] st = some (.tup [.lst .any 1 [I 1], I 0], st) :=
  run_any (fn := ir17) rfl rfl (callAV_run L 300 _ _ _ _ (show callAV L 300 17 [kA] ⟨[], []⟩ = some (.tup [.lst .any 1 [I 1], I 0], ⟨[], []⟩) by kernel_rfl)) st
theorem k17_2 (st : St) : run L 17 [.agg [I 4, .v (.slice none 0 0)]] st = some (.tup [.v (.slice none 0 0), I 0], st) :=
  run_any (fn := ir17) rfl rfl (callAV_run L 300 _ _ _ _ (show callAV L 300 17 [.agg [I 4, .v (.slice none 0 0)]] ⟨[], []⟩ = some (.tup [.v (.slice none 0 0), I 0], ⟨[], []⟩) by kernel_rfl)) st
theorem k19_4 (st : St) : run L 19 [kB] st = some (.tup [I 3, I 0], st) :=
  run_any (fn := ir19) rfl rfl (callAV_run L 300 _ _ _ _ (show callAV L 300 19 [kB] ⟨[], []⟩ = some (.tup [I 3, I 0], ⟨[], []⟩) by kernel_rfl)) st
theorem k19_5 (st : St) : run L 19 [kA] st = some (.tup [I 1, I 0], st) :=
  run_any (fn := ir19) rfl rfl (callAV_run L 300 _ _ _ _ (show callAV L 300 19 [kA] ⟨[], []⟩ = some (.tup [I 1, I 0], ⟨[], []⟩) by kernel_rfl)) st
theorem k21_7 (st : St) : run L 21 [.lst .any 1 [I 0, I 1], .lst .any 1 [I 0, I 1]] st = some (B true, st) :=
  run_any (fn := ir21) rfl rfl (callAV_run L 300 _ _ _ _ (show callAV L 300 21 [.lst .any 1 [I 0, I 1], .lst .any 1 [I 0, I 1]] ⟨[], []⟩ = some (B true, ⟨[], []⟩) by kernel_rfl)) st
theorem k21_8 (st : St) : run L 21 [.lst .any 1 [I 0, I 2, I 0, I 1, I 1, I 1], .lst .any 1 [I 0, I 2, I 0, I 1, I 1, I 1]] st = some (B true, st) :=
  run_any (fn := ir21) rfl rfl (callAV_run L 300 _ _ _ _ (show callAV L 300 21 [.lst .any 1 [I 0, I 2, I 0, I 1, I 1, I 1], .lst .any 1 [I 0, I 2, I 0, I 1, I 1, I 1]] ⟨[], []⟩ = some (B true, ⟨[], []⟩) by kernel_rfl)) st
theorem k21_9 (st : St) : run L 21 [.lst .any 1 [I 0, I 2, I 0], .lst .any 1 [I 0, I 2, I 0]] st = some (B true, st) :=
  run_any (fn := ir21) rfl rfl (callAV_run L 300 _ _ _ _ (show callAV L 300 21 [.lst .any 1 [I 0, I 2, I 0], .lst .any 1 [I 0, I 2, I 0]] ⟨[], []⟩ = some (B true, ⟨[], []⟩) by kernel_rfl)) st
theorem k21_10 (st : St) : run L 21 [.lst .any 1 [I 0, I 2], .lst .any 1 [I 0, I 2]] st = some (B true, st) :=
  run_any (fn := ir21) rfl rfl (callAV_run L 300 _ _ _ _ (show callAV L 300 21 [.lst .any 1 [I 0, I 2], .lst .any 1 [I 0, I 2]] ⟨[], []⟩ = some (B true, ⟨[], []⟩) by kernel_rfl)) st
theorem k21_11 (st : St) : run L 21 [.lst .any 1 [I 0, I 3, I 4], .lst .any 1 [I 0, I 3, I 4]] st = some (B true, st) :=
  run_any (fn := ir21) rfl rfl (callAV_run L 300 _ _ _ _ (show callAV L 300 21 [.lst .any 1 [I 0, I 3, I 4], .lst .any 1 [I 0, I 3, I 4]] ⟨[], []⟩ = some (B true, ⟨[], []⟩) by kernel_rfl)) st
theorem k21_12 (st : St) : run L 21 [.lst .any 1 [I 0], .lst .any 1 [I 0]] st = some (B true, st) :=
  run_any (fn := ir21) rfl rfl (callAV_run L 300 _ _ _ _ (show callAV L 300 21 [.lst .any 1 [I 0], .lst .any 1 [I 0]] ⟨[], []⟩ = some (B true, ⟨[], []⟩) by kernel_rfl)) st
theorem k21_13 (st : St) : run L 21 [.lst .any 1 [I 1, I 1, I 1], .lst .any 1 [I 1, I 1, I 1]] st = some (B true, st) :=
  run_any (fn := ir21) rfl rfl (callAV_run L 300 _ _ _ _ (show callAV L 300 21 [.lst .any 1 [I 1, I 1, I 1], .lst .any 1 [I 1, I 1, I 1]] ⟨[], []⟩ = some (B true, ⟨[], []⟩) by kernel_rfl)) st
theorem k21_14 (st : St) : run L 21 [.lst .any 1 [I 1, I 2], .lst .any 1 [I 1, I 2]] st = some (B true, st) :=
  run_any (fn := ir21) rfl rfl (callAV_run L 300 _ _ _ _ (show callAV L 300 21 [.lst .any 1 [I 1, I 2], .lst .any 1 [I 1, I 2]] ⟨[], []⟩ = some (B true, ⟨[], []⟩) by kernel_rfl)) st
theorem k21_15 (st : St) : run L 21 [.lst .any 1 [I 1], .lst .any 1 [I 1]] st = some (B true, st) :=
  run_any (fn := ir21) rfl rfl (callAV_run L 300 _ _ _ _ (show callAV L 300 21 [.lst .any 1 [I 1], .lst .any 1 [I 1]] ⟨[], []⟩ = some (B true, ⟨[], []⟩) by kernel_rfl)) st
theorem k21_16 (st : St) : run L 21 [.lst .any 1 [I 2, I 0, I 0, I 1, I 1, I 1], .lst .any 1 [I 2, I 0, I 0, I 1, I 1, I 1]] st = some (B true, st) :=
  run_any (fn := ir21) rfl rfl (callAV_run L 300 _ _ _ _ (show callAV L 300 21 [.lst .any 1 [I 2, I 0, I 0, I 1, I 1, I 1], .lst .any 1 [I 2, I 0, I 0, I 1, I 1, I 1]] ⟨[], []⟩ = some (B true, ⟨[], []⟩) by kernel_rfl)) st
theorem k21_17 (st : St) : run L 21 [.lst .any 1 [I 3, I 4, I 5], .lst .any 1 [I 3, I 4, I 5]] st = some (B true, st) :=
  run_any (fn := ir21) rfl rfl (callAV_run L 300 _ _ _ _ (show callAV L 300 21 [.lst .any 1 [I 3, I 4, I 5], .lst .any 1 [I 3, I 4, I 5]] ⟨[], []⟩ = some (B true, ⟨[], []⟩) by kernel_rfl)) st
theorem k22_18 (st : St) : run L 22 [.agg [I 2, .lst .any 2 [.agg [I 0, I 1], .agg [I 0, I 1]]]] st = some (I 6, st) :=
  run_any (fn := ir22) rfl rfl (callAV_run L 300 _ _ _ _ (show callAV L 300 22 [.agg [I 2, .lst .any 2 [.agg [I 0, I 1], .agg [I 0, I 1]]]] ⟨[], []⟩ = some (I 6, ⟨[], []⟩) by kernel_rfl)) st
theorem k22_19 (st : St) : run L 22 [.agg [I 2, .lst .any 2 [.agg [I 0, I 2]]]] st = some (I 2, st) :=
  run_any (fn := ir22) rfl rfl (callAV_run L 300 _ _ _ _ (show callAV L 300 22 [.agg [I 2, .lst .any 2 [.agg [I 0, I 2]]]] ⟨[], []⟩ = some (I 2, ⟨[], []⟩) by kernel_rfl)) st
theorem k22_20 (st : St) : run L 22 [.agg [I 2, .lst .any 2 [.agg [I 1, I 0]]]] st = some (I 7, st) :=
  run_any (fn := ir22) rfl rfl (callAV_run L 300 _ _ _ _ (show callAV L 300 22 [.agg [I 2, .lst .any 2 [.agg [I 1, I 0]]]] ⟨[], []⟩ = some (I 7, ⟨[], []⟩) by kernel_rfl)) st
theorem k22_21 (st : St) : run L 22 [.agg [I 8, .v (.slice none 0 0)]] st = some (I 1, st) :=
  run_any (fn := ir22) rfl rfl (callAV_run L 300 _ _ _ _ (show callAV L 300 22 [.agg [I 8, .v (.slice none 0 0)]] ⟨[], []⟩ = some (I 1, ⟨[], []⟩) by kernel_rfl)) st
theorem k24_22 (st : St) : run L 24 [kC, .lst .any 1 [I 0, I 3, I 4]] st = some (I 0, st) :=
  run_any (fn := ir24) rfl rfl (callAV_run L 300 _ _ _ _ (show callAV L 300 24 [kC, .lst .any 1 [I 0, I 3, I 4]] ⟨[], []⟩ = some (I 0, ⟨[], []⟩) by kernel_rfl)) st
theorem k24_23 (st : St) : run L 24 [kC, .lst .any 1 [I 0, I 3]] st = some (I 21, st) :=
  run_any (fn := ir24) rfl rfl (callAV_run L 300 _ _ _ _ (show callAV L 300 24 [kC, .lst .any 1 [I 0, I 3]] ⟨[], []⟩ = some (I 21, ⟨[], []⟩) by kernel_rfl)) st
theorem k24_24 (st : St) : run L 24 [kC, .lst .any 1 [I 3, I 0]] st = some (I 7, st) :=
  run_any (fn := ir24) rfl rfl (callAV_run L 300 _ _ _ _ (show callAV L 300 24 [kC, .lst .any 1 [I 3, I 0]] ⟨[], []⟩ = some (I 7, ⟨[], []⟩) by kernel_rfl)) st
theorem k24_25 (st : St) : run L 24 [kC, .lst .any 1 [I 6]] st = some (I 2, st) :=
  run_any (fn := ir24) rfl rfl (callAV_run L 300 _ _ _ _ (show callAV L 300 24 [kC, .lst .any 1 [I 6]] ⟨[], []⟩ = some (I 2, ⟨[], []⟩) by kernel_rfl)) st
theorem k26_26 (st : St) : run L 26 [kB] st = some (.tup [.lst .any 1 [I 1, I 1, I 1], I 0], st) :=
  run_any (fn := ir26) rfl rfl (callAV_run L 300 _ _ _ _ (show callAV L 300 26 [kB] ⟨[], []⟩ = some (.tup [.lst .any 1 [I 1, I 1, I 1], I 0], ⟨[], []⟩) by kernel_rfl)) st
theorem k26_27 (st : St) : run L 26 [kA] st = some (.tup [.lst .any 1 [I 0, I 2, I 0], I 0], st) :=
  run_any (fn := ir26) rfl rfl (callAV_run L 300 _ _ _ _ (show callAV L 300 26 [kA] ⟨[], []⟩ = some (.tup [.lst .any 1 [I 0, I 2, I 0], I 0], ⟨[], []⟩) by kernel_rfl)) st
theorem k28_29 (st : St) : run L 28 [kB] st = some (.tup [.v (.slice none 0 0), .v (.slice none 0 0), I 0], st) :=
  run_any (fn := ir28) rfl rfl (callAV_run L 300 _ _ _ _ (show callAV L 300 28 [kB] ⟨[], []⟩ = some (.tup [.v (.slice none 0 0), .v (.slice none 0 0), I 0], ⟨[], []⟩) by kernel_rfl)) st
theorem k28_30 (st : St) : run L 28 [kA] st = some (.tup [.lst .any 1 [I 1], .lst .any 1 [I 0, I 2], I 0], st) :=
  run_any (fn := ir28) rfl rfl (callAV_run L 300 _ _ _ _ (show callAV L 300 28 [kA] ⟨[], []⟩ = some (.tup [.lst .any 1 [I 1], .lst .any 1 [I 0, I 2], I 0], ⟨[], []⟩) by kernel_rfl)) st
theorem k30_32 (st : St) : run L 30 [kB, .lst .any 1 [I 1, I 1, I 1]] st = some (I 0, st) :=
  run_any (fn := ir30) rfl rfl (callAV_run L 300 _ _ _ _ (show callAV L 300 30 [kB, .lst .any 1 [I 1, I 1, I 1]] ⟨[], []⟩ = some (I 0, ⟨[], []⟩) by kernel_rfl)) st
theorem k30_33 (st : St) : run L 30 [kB, .lst .any 1 [I 1, I 1]] st = some (I 5, st) :=
  run_any (fn := ir30) rfl rfl (callAV_run L 300 _ _ _ _ (show callAV L 300 30 [kB, .lst .any 1 [I 1, I 1]] ⟨[], []⟩ = some (I 5, ⟨[], []⟩) by kernel_rfl)) st
theorem k30_34 (st : St) : run L 30 [kB, .lst .any 1 [I 2, I 1, I 0]] st = some (I 21, st) :=
  run_any (fn := ir30) rfl rfl (callAV_run L 300 _ _ _ _ (show callAV L 300 30 [kB, .lst .any 1 [I 2, I 1, I 0]] ⟨[], []⟩ = some (I 21, ⟨[], []⟩) by kernel_rfl)) st
theorem k30_35 (st : St) : run L 30 [kB, .lst .any 1 [I 3, I 0, I 0]] st = some (I 1, st) :=
  run_any (fn := ir30) rfl rfl (callAV_run L 300 _ _ _ _ (show callAV L 300 30 [kB, .lst .any 1 [I 3, I 0, I 0]] ⟨[], []⟩ = some (I 1, ⟨[], []⟩) by kernel_rfl)) st
theorem k32_36 (st : St) : run L 32 [kA] st = some (.tup [.agg [I 0, .v (.slice none 0 0)], .v (.slice none 0 0), I 0], st) :=
  run_any (fn := ir32) rfl rfl (callAV_run L 300 _ _ _ _ (show callAV L 300 32 [kA] ⟨[], []⟩ = some (.tup [.agg [I 0, .v (.slice none 0 0)], .v (.slice none 0 0), I 0], ⟨[], []⟩) by kernel_rfl)) st
theorem k34_38 (st : St) : run L 34 [.lst .any 2 [.agg [I 0, I 1], .agg [I 0, I 2], .agg [I 1, I 2]], .lst .any 2 [.agg [I 0, I 1], .agg [I 0, I 2], .agg [I 1, I 2]]] st = some (B true, st) :=
  run_any (fn := ir34) rfl rfl (callAV_run L 300 _ _ _ _ (show callAV L 300 34 [.lst .any 2 [.agg [I 0, I 1], .agg [I 0, I 2], .agg [I 1, I 2]], .lst .any 2 [.agg [I 0, I 1], .agg [I 0, I 2], .agg [I 1, I 2]]] ⟨[], []⟩ = some (B true, ⟨[], []⟩) by kernel_rfl)) st
theorem k35_39 (st : St) : run L 35 [kB] st = some (.tup [.lst .any 1 [I 1, I 1, I 1], I 0], st) :=
  run_any (fn := ir35) rfl rfl (callAV_run L 300 _ _ _ _ (show callAV L 300 35 [kB] ⟨[], []⟩ = some (.tup [.lst .any 1 [I 1, I 1, I 1], I 0], ⟨[], []⟩) by kernel_rfl)) st
theorem k35_40 (st : St) : run L 35 [kA] st = some (.tup [.lst .any 1 [I 0, I 2], I 0], st) :=
  run_any (fn := ir35) rfl rfl (callAV_run L 300 _ _ _ _ (show callAV L 300 35 [kA] ⟨[], []⟩ = some (.tup [.lst .any 1 [I 0, I 2], I 0], ⟨[], []⟩) by kernel_rfl)) st
theorem k37_42 (st : St) : run L 37 [kB] st = some (.tup [.lst .any 1 [.lst .any 1 [I 0, I 1, I 2]], I 0], st) :=
  run_any (fn := ir37) rfl rfl (callAV_run L 300 _ _ _ _ (show callAV L 300 37 [kB] ⟨[], []⟩ = some (.tup [.lst .any 1 [.lst .any 1 [I 0, I 1, I 2]], I 0], ⟨[], []⟩) by kernel_rfl)) st
theorem k37_43 (st : St) : run L 37 [kA] st = some (.tup [.v (.slice none 0 0), I 0], st) :=
  run_any (fn := ir37) rfl rfl (callAV_run L 300 _ _ _ _ (show callAV L 300 37 [kA] ⟨[], []⟩ = some (.tup [.v (.slice none 0 0), I 0], ⟨[], []⟩) by kernel_rfl)) st
theorem k39_45 (st : St) : run L 39 [.lst .any 1 [.lst .any 1 [I 0, I 1, I 2]], .lst .full 1 [.lst .any 1 [I 0, I 1, I 2]]] st = some (B true, st) :=
  run_any (fn := ir39) rfl rfl (callAV_run L 300 _ _ _ _ (show callAV L 300 39 [.lst .any 1 [.lst .any 1 [I 0, I 1, I 2]], .lst .full 1 [.lst .any 1 [I 0, I 1, I 2]]] ⟨[], []⟩ = some (B true, ⟨[], []⟩) by kernel_rfl)) st
theorem k39_46 (st : St) : run L 39 [.lst .any 1 [.lst .any 1 [I 3, I 4, I 5]], .lst .full 1 [.lst .any 1 [I 3, I 4, I 5]]] st = some (B true, st) :=
  run_any (fn := ir39) rfl rfl (callAV_run L 300 _ _ _ _ (show callAV L 300 39 [.lst .any 1 [.lst .any 1 [I 3, I 4, I 5]], .lst .full 1 [.lst .any 1 [I 3, I 4, I 5]]] ⟨[], []⟩ = some (B true, ⟨[], []⟩) by kernel_rfl)) st
theorem k40_47 (st : St) : run L 40 [kB, .lst .any 1 [I 1, I 1, I 1]] st = some (I 0, st) :=
  run_any (fn := ir40) rfl rfl (callAV_run L 300 _ _ _ _ (show callAV L 300 40 [kB, .lst .any 1 [I 1, I 1, I 1]] ⟨[], []⟩ = some (I 0, ⟨[], []⟩) by kernel_rfl)) st
theorem k42_48 (st : St) : run L 42 [kB, .lst .any 1 [I 1, I 1, I 1], .lst .any 1 [I 1, I 1, I 1]] st = some (I 0, st) :=
  run_any (fn := ir42) rfl rfl (callAV_run L 300 _ _ _ _ (show callAV L 300 42 [kB, .lst .any 1 [I 1, I 1, I 1], .lst .any 1 [I 1, I 1, I 1]] ⟨[], []⟩ = some (I 0, ⟨[], []⟩) by kernel_rfl)) st
theorem k42_49 (st : St) : run L 42 [kB, .lst .any 1 [I 1, I 1, I 1], .lst .any 1 [I 2, I 1, I 0]] st = some (I 15, st) :=
  run_any (fn := ir42) rfl rfl (callAV_run L 300 _ _ _ _ (show callAV L 300 42 [kB, .lst .any 1 [I 1, I 1, I 1], .lst .any 1 [I 2, I 1, I 0]] ⟨[], []⟩ = some (I 15, ⟨[], []⟩) by kernel_rfl)) st
theorem k42_50 (st : St) : run L 42 [kB, .lst .any 1 [I 2, I 2, I 0], .lst .any 1 [I 1, I 1, I 1]] st = some (I 14, st) :=
  run_any (fn := ir42) rfl rfl (callAV_run L 300 _ _ _ _ (show callAV L 300 42 [kB, .lst .any 1 [I 2, I 2, I 0], .lst .any 1 [I 1, I 1, I 1]] ⟨[], []⟩ = some (I 14, ⟨[], []⟩) by kernel_rfl)) st
theorem k51_52 (st : St) : run L 51 [] st = some (kB, st) :=
  run_any (fn := ir51) rfl rfl (callAV_run L 300 _ _ _ _ (show callAV L 300 51 [] ⟨[], []⟩ = some (kB, ⟨[], []⟩) by kernel_rfl)) st
theorem k52_53 (st : St) : run L 52 [I 2, .lst .full 1 [I 0, I 1, I 0, I 1]] st = some (.agg [I 2, .lst .any 2 [.agg [I 0, I 1], .agg [I 0, I 1]]], st) :=
  run_any (fn := ir52) rfl rfl (callAV_run L 300 _ _ _ _ (show callAV L 300 52 [I 2, .lst .full 1 [I 0, I 1, I 0, I 1]] ⟨[], []⟩ = some (.agg [I 2, .lst .any 2 [.agg [I 0, I 1], .agg [I 0, I 1]]], ⟨[], []⟩) by kernel_rfl)) st
theorem k52_54 (st : St) : run L 52 [I 2, .lst .full 1 [I 0, I 2]] st = some (.agg [I 2, .lst .any 2 [.agg [I 0, I 2]]], st) :=
  run_any (fn := ir52) rfl rfl (callAV_run L 300 _ _ _ _ (show callAV L 300 52 [I 2, .lst .full 1 [I 0, I 2]] ⟨[], []⟩ = some (.agg [I 2, .lst .any 2 [.agg [I 0, I 2]]], ⟨[], []⟩) by kernel_rfl)) st
theorem k52_55 (st : St) : run L 52 [I 2, .lst .full 1 [I 1, I 0]] st = some (.agg [I 2, .lst .any 2 [.agg [I 1, I 0]]], st) :=
  run_any (fn := ir52) rfl rfl (callAV_run L 300 _ _ _ _ (show callAV L 300 52 [I 2, .lst .full 1 [I 1, I 0]] ⟨[], []⟩ = some (.agg [I 2, .lst .any 2 [.agg [I 1, I 0]]], ⟨[], []⟩) by kernel_rfl)) st
theorem k52_56 (st : St) : run L 52 [I 4, .v (.slice none 0 0)] st = some (.agg [I 4, .v (.slice none 0 0)], st) :=
  run_any (fn := ir52) rfl rfl (callAV_run L 300 _ _ _ _ (show callAV L 300 52 [I 4, .v (.slice none 0 0)] ⟨[], []⟩ = some (.agg [I 4, .v (.slice none 0 0)], ⟨[], []⟩) by kernel_rfl)) st
theorem k52_57 (st : St) : run L 52 [I 8, .v (.slice none 0 0)] st = some (.agg [I 8, .v (.slice none 0 0)], st) :=
  run_any (fn := ir52) rfl rfl (callAV_run L 300 _ _ _ _ (show callAV L 300 52 [I 8, .v (.slice none 0 0)] ⟨[], []⟩ = some (.agg [I 8, .v (.slice none 0 0)], ⟨[], []⟩) by kernel_rfl)) st
theorem k53_58 (st : St) : run L 53 [.lst .full 1 [I 0, I 1]] st = some (.lst .any 1 [I 0, I 1], st) :=
  run_any (fn := ir53) rfl rfl (callAV_run L 300 _ _ _ _ (show callAV L 300 53 [.lst .full 1 [I 0, I 1]] ⟨[], []⟩ = some (.lst .any 1 [I 0, I 1], ⟨[], []⟩) by kernel_rfl)) st
theorem k53_59 (st : St) : run L 53 [.lst .full 1 [I 0, I 2, I 0, I 1, I 1, I 1]] st = some (.lst .any 1 [I 0, I 2, I 0, I 1, I 1, I 1], st) :=
  run_any (fn := ir53) rfl rfl (callAV_run L 300 _ _ _ _ (show callAV L 300 53 [.lst .full 1 [I 0, I 2, I 0, I 1, I 1, I 1]] ⟨[], []⟩ = some (.lst .any 1 [I 0, I 2, I 0, I 1, I 1, I 1], ⟨[], []⟩) by kernel_rfl)) st
theorem k53_60 (st : St) : run L 53 [.lst .full 1 [I 0, I 2, I 0]] st = some (.lst .any 1 [I 0, I 2, I 0], st) :=
  run_any (fn := ir53) rfl rfl (callAV_run L 300 _ _ _ _ (show callAV L 300 53 [.lst .full 1 [I 0, I 2, I 0]] ⟨[], []⟩ = some (.lst .any 1 [I 0, I 2, I 0], ⟨[], []⟩) by kernel_rfl)) st
theorem k53_61 (st : St) : run L 53 [.lst .full 1 [I 0, I 2]] st = some (.lst .any 1 [I 0, I 2], st) :=
  run_any (fn := ir53) rfl rfl (callAV_run L 300 _ _ _ _ (show callAV L 300 53 [.lst .full 1 [I 0, I 2]] ⟨[], []⟩ = some (.lst .any 1 [I 0, I 2], ⟨[], []⟩) by kernel_rfl)) st
theorem k53_62 (st : St) : run L 53 [.lst .full 1 [I 0, I 3, I 4]] st = some (.lst .any 1 [I 0, I 3, I 4], st) :=
  run_any (fn := ir53) rfl rfl (callAV_run L 300 _ _ _ _ (show callAV L 300 53 [.lst .full 1 [I 0, I 3, I 4]] ⟨[], []⟩ = some (.lst .any 1 [I 0, I 3, I 4], ⟨[], []⟩) by kernel_rfl)) st
theorem k53_63 (st : St) : run L 53 [.lst .full 1 [I 0, I 3]] st = some (.lst .any 1 [I 0, I 3], st) :=
  run_any (fn := ir53) rfl rfl (callAV_run L 300 _ _ _ _ (show callAV L 300 53 [.lst .full 1 [I 0, I 3]] ⟨[], []⟩ = some (.lst .any 1 [I 0, I 3], ⟨[], []⟩) by kernel_rfl)) st
theorem k53_64 (st : St) : run L 53 [.lst .full 1 [I 0]] st = some (.lst .any 1 [I 0], st) :=
  run_any (fn := ir53) rfl rfl (callAV_run L 300 _ _ _ _ (show callAV L 300 53 [.lst .full 1 [I 0]] ⟨[], []⟩ = some (.lst .any 1 [I 0], ⟨[], []⟩) by kernel_rfl)) st
theorem k53_65 (st : St) : run L 53 [.lst .full 1 [I 1, I 1, I 1]] st = some (.lst .any 1 [I 1, I 1, I 1], st) :=
  run_any (fn := ir53) rfl rfl (callAV_run L 300 _ _ _ _ (show callAV L 300 53 [.lst .full 1 [I 1, I 1, I 1]] ⟨[], []⟩ = some (.lst .any 1 [I 1, I 1, I 1], ⟨[], []⟩) by kernel_rfl)) st
theorem k53_66 (st : St) : run L 53 [.lst .full 1 [I 1, I 1]] st = some (.lst .any 1 [I 1, I 1], st) :=
  run_any (fn := ir53) rfl rfl (callAV_run L 300 _ _ _ _ (show callAV L 300 53 [.lst .full 1 [I 1, I 1]] ⟨[], []⟩ = some (.lst .any 1 [I 1, I 1], ⟨[], []⟩) by kernel_rfl)) st
theorem k53_67 (st : St) : run L 53 [.lst .full 1 [I 1, I 2]] st = some (.lst .any 1 [I 1, I 2], st) :=
  run_any (fn := ir53) rfl rfl (callAV_run L 300 _ _ _ _ (show callAV L 300 53 [.lst .full 1 [I 1, I 2]] ⟨[], []⟩ = some (.lst .any 1 [I 1, I 2], ⟨[], []⟩) by kernel_rfl)) st
theorem k53_68 (st : St) : run L 53 [.lst .full 1 [I 1]] st = some (.lst .any 1 [I 1], st) :=
  run_any (fn := ir53) rfl rfl (callAV_run L 300 _ _ _ _ (show callAV L 300 53 [.lst .full 1 [I 1]] ⟨[], []⟩ = some (.lst .any 1 [I 1], ⟨[], []⟩) by kernel_rfl)) st
theorem k53_69 (st : St) : run L 53 [.lst .full 1 [I 2, I 0, I 0, I 1, I 1, I 1]] st = some (.lst .any 1 [I 2, I 0, I 0, I 1, I 1, I 1], st) :=
  run_any (fn := ir53) rfl rfl (callAV_run L 300 _ _ _ _ (show callAV L 300 53 [.lst .full 1 [I 2, I 0, I 0, I 1, I 1, I 1]] ⟨[], []⟩ = some (.lst .any 1 [I 2, I 0, I 0, I 1, I 1, I 1], ⟨[], []⟩) by kernel_rfl)) st
theorem k53_70 (st : St) : run L 53 [.lst .full 1 [I 2, I 1, I 0]] st = some (.lst .any 1 [I 2, I 1, I 0], st) :=
  run_any (fn := ir53) rfl rfl (callAV_run L 300 _ _ _ _ (show callAV L 300 53 [.lst .full 1 [I 2, I 1, I 0]] ⟨[], []⟩ = some (.lst .any 1 [I 2, I 1, I 0], ⟨[], []⟩) by kernel_rfl)) st
theorem k53_71 (st : St) : run L 53 [.lst .full 1 [I 2, I 2, I 0]] st = some (.lst .any 1 [I 2, I 2, I 0], st) :=
  run_any (fn := ir53) rfl rfl (callAV_run L 300 _ _ _ _ (show callAV L 300 53 [.lst .full 1 [I 2, I 2, I 0]] ⟨[], []⟩ = some (.lst .any 1 [I 2, I 2, I 0], ⟨[], []⟩) by kernel_rfl)) st
theorem k53_72 (st : St) : run L 53 [.lst .full 1 [I 3, I 0, I 0]] st = some (.lst .any 1 [I 3, I 0, I 0], st) :=
  run_any (fn := ir53) rfl rfl (callAV_run L 300 _ _ _ _ (show callAV L 300 53 [.lst .full 1 [I 3, I 0, I 0]] ⟨[], []⟩ = some (.lst .any 1 [I 3, I 0, I 0], ⟨[], []⟩) by kernel_rfl)) st
theorem k53_73 (st : St) : run L 53 [.lst .full 1 [I 3, I 0]] st = some (.lst .any 1 [I 3, I 0], st) :=
  run_any (fn := ir53) rfl rfl (callAV_run L 300 _ _ _ _ (show callAV L 300 53 [.lst .full 1 [I 3, I 0]] ⟨[], []⟩ = some (.lst .any 1 [I 3, I 0], ⟨[], []⟩) by kernel_rfl)) st
theorem k53_74 (st : St) : run L 53 [.lst .full 1 [I 3, I 4, I 5]] st = some (.lst .any 1 [I 3, I 4, I 5], st) :=
  run_any (fn := ir53) rfl rfl (callAV_run L 300 _ _ _ _ (show callAV L 300 53 [.lst .full 1 [I 3, I 4, I 5]] ⟨[], []⟩ = some (.lst .any 1 [I 3, I 4, I 5], ⟨[], []⟩) by kernel_rfl)) st
theorem k53_75 (st : St) : run L 53 [.lst .full 1 [I 6]] st = some (.lst .any 1 [I 6], st) :=
  run_any (fn := ir53) rfl rfl (callAV_run L 300 _ _ _ _ (show callAV L 300 53 [.lst .full 1 [I 6]] ⟨[], []⟩ = some (.lst .any 1 [I 6], ⟨[], []⟩) by kernel_rfl)) st
theorem k54_76 (st : St) : run L 54 [] st = some (kC, st) :=
  run_any (fn := ir54) rfl rfl (callAV_run L 300 _ _ _ _ (show callAV L 300 54 [] ⟨[], []⟩ = some (kC, ⟨[], []⟩) by kernel_rfl)) st
end Go.Proofs.YtpmbfgogpcjdlaaDoor.Vm
