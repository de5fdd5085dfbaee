/- What is proved: what functions of this program answer, by the evaluator. No condition. -/
import Derived.Test.YtdnjagnechibhaaGreatDoorLib
import Derived.Test.YtdnjagnechibhaaGreatDoorSy
import Derived.KernelRfl
set_option linter.all false
namespace Go.Proofs.YtdnjagnechibhaaGreatDoor.Vm
open Go Go.Ev
set_option maxRecDepth 100000
attribute [local go_sem] cells_any storable_any ren1_any shaped_ptr cells_ptr storable_ptr ren1_ptr shaped_eptr cells_eptr storable_eptr ren1_eptr shaped_rsl cells_rsl storable_rsl ren1_rsl shaped_int cells_int storable_int ren1_int shaped_bool cells_bool storable_bool ren1_bool shaped_nils cells_nils storable_nils ren1_nils shaped_lst cells_lst storable_lst shaped_fn cells_fn storable_fn ren1_fn shaped_ifc cells_ifc storable_ifc ren1_ifc shaped_agg cells_agg storable_agg ren1_agg shaped_tup cells_tup storable_tup ren1_tup shaped_nif cells_nif storable_nif ren1_nif ren1_lany ren1_lfull ren1_lown len_lst len_rsl len_nil load_ptr load_eptr isRsl_lst isRsl_nil isRsl_rsl elems_nil elems_lst elems_sl isRsl_sl body_eq bodyK_normal bodyK_ret resK_some leaveK_some only_some code_skip code_exit code_ret code_ops code_seq code_cond code_block seqK_normal seqK_ret seqK_exit condK_true condK_false blockK_normal blockK_ret blockK_exit opsK_some ops_nil ops_cons wantK_true wantK_false stepK_some pubs pub pub_sl params okRef_loc storable_loc shaped_loc cells_loc isRsl_loc elems_loc len_loc untips untip untip_sl wantedAV setElems withO isAgg_v isAgg_agg isAgg_lst isAgg_ptr isAgg_fn isAgg_ifc isAgg_rsl isAgg_sl isAgg_loc List.replicate_succ List.replicate_zero opAV valAV aval avals ofVal Env.get setD canon gcAV renAll renEnv renStore renCells ren1_sl cutSt okEnv okStore okRefs okRef okRef_sl bin_int bin_bool bin_lst bin_rsl bin_nil bin_agg cellsEq cellEq isShift intOp boolOp min_int max_int beq_int bne resAV tupAV leave_eq fin_sl fin_loc fins fin_v fin_lst fin_agg fin_tup fin_fn storeAV readCells putCells cells_sl shaped_sl storable_sl fieldAddrAV len_sl goI List.getElem?_cons_zero List.getElem?_cons_succ List.getElem?_nil Option.bind_some Option.map_some List.length_cons List.length_nil List.all_cons List.all_nil Bool.and_true Bool.true_and Bool.and_false Bool.false_and and_true true_and and_false false_and Bool.false_eq_true List.set_cons_zero List.set_cons_succ List.append_nil List.nil_append List.cons_append List.take_zero List.take_succ_cons List.take_nil List.drop_zero List.drop_succ_cons List.map_cons List.map_nil decide_true decide_false beq_self_eq_true Bool.not_true Bool.not_false or_true true_or or_false false_or Nat.zero_add Nat.add_zero Nat.le_refl Nat.lt_irrefl decide_eq_true_eq eq_self_iff_true not_true_eq_false not_false_eq_true List.getD_cons_zero code_loop Nat.zero_le Nat.not_lt_zero Bool.true_beq Bool.false_beq beq_true beq_false ge_iff_le gt_iff_lt keepR keepT ownTop Lpure pus Option.map_none assert_ifc assert_nil idxA_ptr idxA_eptr idxV_agg Int.cast_ofNat_Int Nat.mul_one Nat.zero_mul Int.toNat_natCast Int.toNat_zero setParts withO2 hasKey eqnil_sl nenil_sl eqnil_loc nenil_loc map_nil_iff okRefs_ints renCells_ints
theorem run_any {f:FuncId} {fn:IF} (hf:L.fns f=some fn)(hp:L.pure f=true) {args:List AV} {st0 st1:St} {r:AV} (h:run L f args st0=some (r,st1))(st:St):run L f args st=some (r,st):=by
 rw [run_pure hf hp] at h⊢
 unfold leaveK at h⊢
 split at h
 ·simp only [leave,Option.some.injEq,Prod.mk.injEq] at h⊢
  exact ⟨h.1,trivial⟩
 ·simp at h
def callO (o:List Nat):Nat→CallF
 |0=>fun _ _ _=>none
 |n+1=>fun f args st=>if o.elem f&&args.isEmpty then some (.v (.bool true),st) else enterAV L (callO o n) (fun b=>loopAV b n) f args st
theorem callO_run {o:List Nat} (ho: ∀f,o.elem f=true→∀st,run L f [] st=some (.v (.bool true),st)): ∀n,CLe (callO o n) (run L)
 |0=>fun f args st r h=>by simp [callO] at h
 |n+1=>fun f args st r h=>by
  simp only [callO] at h
  split at h
  ·next hc=>
   simp only [Bool.and_eq_true,List.isEmpty_iff] at hc
   obtain ⟨h1,rfl⟩:=hc
   simp only [Option.some.injEq] at h
   subst h
   exact ho f h1 st
  ·rw [run_eq]
   exact enterAV_le (callO_run ho n) (loopAV_lim n) _ _ _ _ h
theorem c217 (st:St):run L 217 [] st=some (.v (.bool true),st):=
 run_any (fn:=ir217) rfl rfl (callO_run (o:=[]) (fun f h=>by simp at h) 300 _ _ _ _ (show callO [] 300 217 [] ⟨[],[]⟩=some (.v (.bool true),⟨[],[]⟩) by kernel_rfl)) st
theorem c180 (st:St):run L 180 [] st=some (.v (.bool true),st):=
 run_any (fn:=ir180) rfl rfl (callO_run (o:=[217]) (fun f h=>by
  simp only [List.elem_eq_mem,List.mem_cons,List.not_mem_nil,or_false,decide_eq_true_eq] at h
  rcases h with rfl
  exact c217) 300 _ _ _ _ (show callO [217] 300 180 [] ⟨[],[]⟩=some (.v (.bool true),⟨[],[]⟩) by kernel_rfl)) st
theorem c141 (st:St):run L 141 [] st=some (.v (.bool true),st):=
 run_any (fn:=ir141) rfl rfl (callO_run (o:=[180]) (fun f h=>by
  simp only [List.elem_eq_mem,List.mem_cons,List.not_mem_nil,or_false,decide_eq_true_eq] at h
  rcases h with rfl
  exact c180) 300 _ _ _ _ (show callO [180] 300 141 [] ⟨[],[]⟩=some (.v (.bool true),⟨[],[]⟩) by kernel_rfl)) st
theorem c140 (st:St):run L 140 [] st=some (.v (.bool true),st):=
 run_any (fn:=ir140) rfl rfl (callO_run (o:=[180]) (fun f h=>by
  simp only [List.elem_eq_mem,List.mem_cons,List.not_mem_nil,or_false,decide_eq_true_eq] at h
  rcases h with rfl
  exact c180) 300 _ _ _ _ (show callO [180] 300 140 [] ⟨[],[]⟩=some (.v (.bool true),⟨[],[]⟩) by kernel_rfl)) st
theorem c80 (st:St):run L 80 [] st=some (.v (.bool true),st):=
 run_any (fn:=ir80) rfl rfl (callO_run (o:=[140]) (fun f h=>by
  simp only [List.elem_eq_mem,List.mem_cons,List.not_mem_nil,or_false,decide_eq_true_eq] at h
  rcases h with rfl
  exact c140) 300 _ _ _ _ (show callO [140] 300 80 [] ⟨[],[]⟩=some (.v (.bool true),⟨[],[]⟩) by kernel_rfl)) st
theorem c81 (st:St):run L 81 [] st=some (.v (.bool true),st):=
 run_any (fn:=ir81) rfl rfl (callO_run (o:=[140,141]) (fun f h=>by
  simp only [List.elem_eq_mem,List.mem_cons,List.not_mem_nil,or_false,decide_eq_true_eq] at h
  rcases h with rfl|rfl
  ·exact c140
  ·exact c141) 300 _ _ _ _ (show callO [140,141] 300 81 [] ⟨[],[]⟩=some (.v (.bool true),⟨[],[]⟩) by kernel_rfl)) st
theorem c30 (st:St):run L 30 [] st=some (.v (.bool true),st):=
 run_any (fn:=ir30) rfl rfl (callO_run (o:=[80,81]) (fun f h=>by
  simp only [List.elem_eq_mem,List.mem_cons,List.not_mem_nil,or_false,decide_eq_true_eq] at h
  rcases h with rfl|rfl
  ·exact c80
  ·exact c81) 300 _ _ _ _ (show callO [80,81] 300 30 [] ⟨[],[]⟩=some (.v (.bool true),⟨[],[]⟩) by kernel_rfl)) st
theorem c96 (st:St):run L 96 [] st=some (.v (.bool true),st):=
 run_any (fn:=ir96) rfl rfl (callO_run (o:=[80]) (fun f h=>by
  simp only [List.elem_eq_mem,List.mem_cons,List.not_mem_nil,or_false,decide_eq_true_eq] at h
  rcases h with rfl
  exact c80) 300 _ _ _ _ (show callO [80] 300 96 [] ⟨[],[]⟩=some (.v (.bool true),⟨[],[]⟩) by kernel_rfl)) st
theorem c60 (st:St):run L 60 [] st=some (.v (.bool true),st):=
 run_any (fn:=ir60) rfl rfl (callO_run (o:=[96]) (fun f h=>by
  simp only [List.elem_eq_mem,List.mem_cons,List.not_mem_nil,or_false,decide_eq_true_eq] at h
  rcases h with rfl
  exact c96) 300 _ _ _ _ (show callO [96] 300 60 [] ⟨[],[]⟩=some (.v (.bool true),⟨[],[]⟩) by kernel_rfl)) st
theorem c39 (st:St):run L 39 [] st=some (.v (.bool true),st):=
 run_any (fn:=ir39) rfl rfl (callO_run (o:=[96,30]) (fun f h=>by
  simp only [List.elem_eq_mem,List.mem_cons,List.not_mem_nil,or_false,decide_eq_true_eq] at h
  rcases h with rfl|rfl
  ·exact c96
  ·exact c30) 300 _ _ _ _ (show callO [96,30] 300 39 [] ⟨[],[]⟩=some (.v (.bool true),⟨[],[]⟩) by kernel_rfl)) st
theorem c16 (st:St):run L 16 [] st=some (.v (.bool true),st):=
 run_any (fn:=ir16) rfl rfl (callO_run (o:=[60,39]) (fun f h=>by
  simp only [List.elem_eq_mem,List.mem_cons,List.not_mem_nil,or_false,decide_eq_true_eq] at h
  rcases h with rfl|rfl
  ·exact c60
  ·exact c39) 300 _ _ _ _ (show callO [60,39] 300 16 [] ⟨[],[]⟩=some (.v (.bool true),⟨[],[]⟩) by kernel_rfl)) st
theorem c90 (st:St):run L 90 [] st=some (.v (.bool true),st):=
 run_any (fn:=ir90) rfl rfl (callO_run (o:=[60]) (fun f h=>by
  simp only [List.elem_eq_mem,List.mem_cons,List.not_mem_nil,or_false,decide_eq_true_eq] at h
  rcases h with rfl
  exact c60) 300 _ _ _ _ (show callO [60] 300 90 [] ⟨[],[]⟩=some (.v (.bool true),⟨[],[]⟩) by kernel_rfl)) st
theorem c35 (st:St):run L 35 [] st=some (.v (.bool true),st):=
 run_any (fn:=ir35) rfl rfl (callO_run (o:=[90,16]) (fun f h=>by
  simp only [List.elem_eq_mem,List.mem_cons,List.not_mem_nil,or_false,decide_eq_true_eq] at h
  rcases h with rfl|rfl
  ·exact c90
  ·exact c16) 300 _ _ _ _ (show callO [90,16] 300 35 [] ⟨[],[]⟩=some (.v (.bool true),⟨[],[]⟩) by kernel_rfl)) st
end Go.Proofs.YtdnjagnechibhaaGreatDoor.Vm
