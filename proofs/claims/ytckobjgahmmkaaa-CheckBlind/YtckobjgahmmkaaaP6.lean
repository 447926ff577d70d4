/- CheckBlind: for every order and every list of numbers the law returns true, and its arguments read as they did; no condition. -/
import Derived.Test.YtckobjgahmmkaaaP5
import Derived.Test.YtckobjgahmmkaaaProg
import Derived.Test.YtckobjgahmmkaaaRows
import Derived.ProofKit
import Derived.DataShut
set_option linter.unusedVariables false
set_option linter.unusedSimpArgs false
set_option maxRecDepth 100000
set_option maxHeartbeats 4000000
namespace Go.Abs
open Go.Proofs
theorem s77 (op : Int) (l : List Cell) (h1 : 3 ≤ op) (h2 : op ≤ 13) (hl : (l.length : Int) = arity op) (hN : ∀ c ∈ l, inN c.n) (h3 : op = 3 → (l.getD 0 ⟨false, 0⟩).known = true → (l.getD 0 ⟨false, 0⟩).n = 0 ∨ (l.getD 0 ⟨false, 0⟩).n = 1)
    (h6 : op = 6 → (l.getD 0 ⟨false, 0⟩).known = false) : Spec Try.prog 77 [.int .i64 op, lst 2 (l.map encCell)] (fun r => r = encCV (evalN op l)) := by
  have q0 : 0 < l.length := by have : 0 < arity op := by { unfold arity; (repeat' split) <;> omega }; omega
  obtain ⟨k0, n0, e0⟩ : ∃ k n, l[0] = Cell.mk k n := ⟨_, _, rfl⟩
  have g0 : l.getD 0 ⟨false, 0⟩ = ⟨k0, n0⟩ := by simp [List.getD_eq_getElem?_getD, List.getElem?_eq_getElem q0, e0]
  have b0 : inN n0 := by have := hN l[0] (List.getElem_mem q0); rw [e0] at this; exact this
  have i0 : (0 : Int) < l.length := by omega
  refine Spec.of_awlS hf77 okf77 (by simp) fun S hS => ?_
  by_cases c3 : op = 3
  · subst c3
    have h3 := h3 rfl
    rw [g0] at h3
    cases k0
    · simp only [i0, cell_at q0, e0, q_wpLs_eq_1, q_wpLs_eq_2, q_wpL_eq_1, q_exL_eq_1, q_exL_eq_4, q_exL_eq_6, q_exL_eq_8, q_exL_eq_9, q_exL_eq_11, q_exL_eq_21, q_exL_eq_23, q_look_eq_1, q_look_eq_2, q_insT_eq_1, q_insO_eq_1, q_awl_eq_1, q_awl_eq_2, q_awl_eq_5, q_awl_eq_6, q_awl_eq_7, q_awl_eq_10, q_AE_thenL_eq_1, q_AE_thenL_eq_3, q_AE_inBlockL_eq_3, q_initT_eq_1, q_initT_eq_2, q_putK_eq_1, q_vBin_eq_1, q_resV_eq_1, q_binV_eq_1, q_binInt_eq_3, q_cutInt_eq_6, q_vFaddr_eq_3, q_partV_eq_2, q_vLoad_eq_2, q_vBuild_eq_1, q_rowV_eq_1, q_ofRow_eq_2, q_pureRow_eq_1, q_pureRow_eq_2, q_V_cells_eq_2, q_splice_eq_1, q_stVarK_eq_1, q_storeK_eq_1, q_mapT_eq_1, q_mapT_eq_2, q_mapO_eq_1, q_mapO_eq_2, q_freeB_eq_1, q_freeT_eq_1, q_freeT_eq_2, q_freeO_eq_1, q_V_noRef_eq_1, q_K_noRef_eq_1, q_endK_eq_2, q_endL_eq_1, q_endV_eq_1, q_resL_eq_1, q_resL_eq_2, q_resX_eq_2, q_resCell_eq_1, q_one_eq_1, q_V_nrm_eq_1, q_V_nrm_eq_2, q_K_nrm_eq_1, q_K_nrm_eq_2, q_K_nrm_eq_3, q_O_nrm_eq_1, q_V_owns_eq_4, q_V_toNew_eq_2, q_C_norm_eq_4, q_C_norm_eq_5, q_C_normRow_eq_1, q_C_normRow_eq_2, q_Option_map_some, q_List_map_cons, q_List_map_nil, q_List_take_succ_cons, q_List_take_zero, q_List_drop_succ_cons, q_List_drop_zero, q_List_nil_append, q_List_length_cons, q_List_length_nil, q_List_getD_cons_zero, true_and, if_true, and_self, Bool.and_true, Bool.or_true, BEq.rfl, List.append_nil, List.nodup_nil, Nat.reduceAdd, Nat.reduceLeDiff, Nat.reduceLT, Nat.reduceBEq, Nat.zero_add, Nat.add_zero, Int.toNat_zero, Nat.le_refl, q_learn_eq_1, q_condK_eq_1, q_condB_eq_1, q_condB_eq_2, r_vIaddr_lst, norm_lst, normRows_Ce, List.length_map, lookT_here, lookT_next, Int.reduceLE, lookO_here, uf77, uf77r33, uf77b34, uf77b37, uf77r38, uf77b39, uf77b40, uf77b65, uf77r66, uf77b67, uf77b68, uf77r69, uf77b70, uf77b71, uf77r72, uf77b73]
      exact fin_cell hS (by simp only [evalN, g0]; simp)
    · simp only [i0, cell_at q0, e0, q_wpLs_eq_1, q_wpLs_eq_2, q_wpL_eq_1, q_exL_eq_1, q_exL_eq_4, q_exL_eq_8, q_exL_eq_11, q_exL_eq_21, q_exL_eq_23, q_exL_eq_28, q_look_eq_1, q_look_eq_2, q_insT_eq_1, q_insO_eq_1, q_awl_eq_2, q_awl_eq_5, q_awl_eq_6, q_awl_eq_7, q_AE_thenL_eq_1, q_initT_eq_1, q_initT_eq_2, q_putK_eq_1, q_vBin_eq_1, q_resV_eq_1, q_binV_eq_1, q_binInt_eq_3, q_cutInt_eq_6, q_vFaddr_eq_3, q_partV_eq_2, q_vLoad_eq_2, q_freeB_eq_1, q_freeT_eq_1, q_freeT_eq_2, q_freeO_eq_1, q_V_noRef_eq_1, q_K_noRef_eq_1, q_List_map_cons, q_List_map_nil, q_List_getD_cons_zero, q_List_getD_cons_succ, true_and, if_true, and_self, Bool.and_true, Bool.or_true, BEq.rfl, Nat.reduceAdd, Nat.reduceLeDiff, Nat.reduceBEq, Nat.zero_add, Nat.add_zero, Int.toNat_zero, Nat.le_refl, q_learn_eq_1, q_condK_eq_1, q_condB_eq_1, r_vIaddr_lst, List.length_map, lookT_here, lookT_next, Int.reduceLE, uf77, uf77r35, uf77b36, uf77b37, uf77r38, uf77b39, uf77b40, uf77b65, uf77r66, uf77b67, uf77b68, uf77r69, uf77b70, uf77b71, uf77r72, uf77b73]
      refine call_r (s94 (n0 == 0)) ?_
      simp only [encCV, encCell, q_wpLs_eq_1, q_wpLs_eq_2, q_wpL_eq_1, q_exL_eq_9, q_look_eq_1, q_insT_eq_1, q_insO_eq_1, q_awl_eq_10, q_AE_thenL_eq_3, q_AE_inBlockL_eq_3, q_ofRow_eq_2, q_pureRow_eq_1, q_pureRow_eq_2, q_V_cells_eq_2, q_splice_eq_1, q_stVarK_eq_1, q_storeK_eq_1, q_mapT_eq_1, q_mapT_eq_2, q_mapO_eq_1, q_mapO_eq_2, q_endK_eq_2, q_endL_eq_1, q_endV_eq_1, q_resL_eq_1, q_resL_eq_2, q_resX_eq_2, q_resCell_eq_1, q_one_eq_1, q_V_nrm_eq_1, q_V_nrm_eq_2, q_K_nrm_eq_1, q_K_nrm_eq_2, q_K_nrm_eq_3, q_O_nrm_eq_1, q_V_owns_eq_4, q_V_toNew_eq_2, q_C_norm_eq_4, q_C_norm_eq_5, q_C_normRow_eq_1, q_C_normRow_eq_2, q_regN_eq_2, q_V_reg_eq_4, q_freesL_eq_1, q_addsL_eq_1, q_regK_eq_1, q_retK_eq_2, q_Option_map_some, q_List_map_cons, q_List_map_nil, q_List_take_succ_cons, q_List_take_zero, q_List_drop_succ_cons, q_List_drop_zero, q_List_nil_append, q_List_length_cons, q_List_length_nil, true_and, if_true, and_self, List.append_nil, List.nodup_nil, Nat.reduceAdd, Nat.reduceMul, Nat.reduceLT, Nat.reduceBEq, Nat.zero_add, Nat.le_refl, norm_lst, normRows_Ce, lookT_here, lookT_next, lookO_here]
      refine fin hS (encCV_eq (a := yes (n0 == 0)) ?_)
      rcases h3 rfl with h | h <;> simp only [] at h <;> subst h <;> simp only [evalN, g0, yes] <;> simp
  have q1 : 1 < l.length := by have : 1 < arity op := by { unfold arity; (repeat' split) <;> omega }; omega
  obtain ⟨k1, n1, e1⟩ : ∃ k n, l[1] = Cell.mk k n := ⟨_, _, rfl⟩
  have g1 : l.getD 1 ⟨false, 0⟩ = ⟨k1, n1⟩ := by simp [List.getD_eq_getElem?_getD, List.getElem?_eq_getElem q1, e1]
  have b1 : inN n1 := by have := hN l[1] (List.getElem_mem q1); rw [e1] at this; exact this
  have i1 : (1 : Int) < l.length := by omega
  by_cases c6 : op = 6
  · subst c6
    have h6 := h6 rfl
    rw [g0] at h6
    have q2 : 2 < l.length := by have : arity 6 = 3 := by decide
                                 omega
    obtain ⟨k2, n2, e2⟩ : ∃ k n, l[2] = Cell.mk k n := ⟨_, _, rfl⟩
    have g2 : l.getD 2 ⟨false, 0⟩ = ⟨k2, n2⟩ := by simp [List.getD_eq_getElem?_getD, List.getElem?_eq_getElem q2, e2]
    have i2 : (2 : Int) < l.length := by omega
    simp only [] at h6
    subst h6
    cases k1
    · simp only [i0, i1, i2, cell_at q0, cell_at q1, cell_at q2, e0, e1, e2, q_wpLs_eq_1, q_wpLs_eq_2, q_wpLQs_eq_1, q_wpLQs_eq_2, q_wpL_eq_1, q_wpLQ_eq_1, q_putDL_eq_1, q_AOp_dst_eq_1, q_AOp_dst_eq_8, q_AOp_dst_eq_12, q_AOp_dst_eq_22, q_exL_eq_1, q_exL_eq_4, q_exL_eq_6, q_exL_eq_9, q_exL_eq_11, q_exLQ_eq_1, q_exLQ_eq_3, q_exLQ_eq_9, q_exLQ_eq_22, q_exLQ_eq_24, q_look_eq_1, q_look_eq_2, q_insT_eq_1, q_insO_eq_1, q_awl_eq_1, q_awl_eq_2, q_awl_eq_3, q_awl_eq_5, q_awl_eq_6, q_awl_eq_7, q_awl_eq_10, q_AE_thenL_eq_1, q_AE_thenL_eq_3, q_AE_inBlockL_eq_3, q_initT_eq_1, q_initT_eq_2, q_putK_eq_1, q_vBin_eq_1, q_resV_eq_1, q_binV_eq_1, q_binInt_eq_3, q_cutInt_eq_6, q_vFaddr_eq_3, q_partV_eq_2, q_vLoad_eq_2, q_vPick_eq_3, q_vBuild_eq_1, q_rowV_eq_1, q_ofRow_eq_2, q_pureRow_eq_1, q_pureRow_eq_2, q_V_cells_eq_2, q_splice_eq_1, q_stVarK_eq_1, q_storeK_eq_1, q_mapT_eq_1, q_mapT_eq_2, q_mapO_eq_1, q_mapO_eq_2, q_freeB_eq_1, q_freeT_eq_1, q_freeT_eq_2, q_freeO_eq_1, q_V_noRef_eq_1, q_K_noRef_eq_1, q_endK_eq_2, q_endL_eq_1, q_endV_eq_1, q_resL_eq_1, q_resL_eq_2, q_resX_eq_2, q_resCell_eq_1, q_one_eq_1, q_V_nrm_eq_1, q_V_nrm_eq_2, q_V_nrm_eq_5, q_K_nrm_eq_1, q_K_nrm_eq_2, q_K_nrm_eq_3, q_O_nrm_eq_1, q_V_owns_eq_4, q_V_toNew_eq_2, q_C_norm_eq_4, q_C_norm_eq_5, q_C_normRow_eq_1, q_C_normRow_eq_2, q_Bool_not_true, q_Option_map_some, q_List_map_cons, q_List_map_nil, q_List_take_succ_cons, q_List_take_zero, q_List_drop_succ_cons, q_List_drop_zero, q_List_nil_append, q_List_length_cons, q_List_length_nil, q_List_getD_cons_zero, true_and, if_true, and_self, Bool.and_true, Bool.or_true, BEq.rfl, List.append_nil, List.nodup_nil, Nat.reduceAdd, Nat.reduceLeDiff, Nat.reduceLT, Nat.reduceBEq, Nat.zero_add, Nat.add_zero, Nat.le_refl, q_learn_eq_1, q_guardP_eq_1, q_condK_eq_1, q_condB_eq_1, q_condB_eq_2, r_vIaddr_lst, norm_lst, normRows_Ce, List.length_map, lookT_here, lookT_next, Int.reduceLE, Int.reduceToNat, Int.reduceBEq, lookO_here, uf77, uf77r48, uf77b49, uf77b52, uf77r53, uf77b54, uf77b55, uf77b56, uf77r57, uf77b58, uf77b59, uf77r60, uf77b61, uf77r62, uf77b63, uf77b64, uf77b65, uf77r66, uf77b67, uf77b68, uf77r69, uf77b70, uf77b71, uf77r72, uf77b73]
      exact fin_cell hS (by simp only [evalN, g0, g1]; simp)
    · cases k2
      · simp only [i0, i1, i2, cell_at q0, cell_at q1, cell_at q2, e0, e1, e2, q_wpLs_eq_1, q_wpLs_eq_2, q_wpLQs_eq_1, q_wpLQs_eq_2, q_wpL_eq_1, q_wpLQ_eq_1, q_AOp_dst_eq_1, q_AOp_dst_eq_8, q_AOp_dst_eq_12, q_AOp_dst_eq_22, q_exL_eq_1, q_exL_eq_4, q_exL_eq_6, q_exL_eq_9, q_exL_eq_11, q_exLQ_eq_1, q_exLQ_eq_3, q_exLQ_eq_9, q_exLQ_eq_14, q_exLQ_eq_22, q_exLQ_eq_24, q_look_eq_1, q_look_eq_2, q_insT_eq_1, q_insO_eq_1, q_awl_eq_1, q_awl_eq_2, q_awl_eq_3, q_awl_eq_5, q_awl_eq_6, q_awl_eq_7, q_awl_eq_10, q_AE_thenL_eq_1, q_AE_thenL_eq_3, q_AE_inBlockL_eq_3, q_initT_eq_1, q_initT_eq_2, q_putK_eq_1, q_vBin_eq_1, q_resV_eq_1, q_binV_eq_1, q_binInt_eq_3, q_cutInt_eq_6, q_vEqAgg_eq_1, q_mapV_eq_1, q_eqRow_eq_1, q_eqRow_eq_2, q_eqC_eq_1, q_eqC_eq_2, q_vFaddr_eq_3, q_partV_eq_1, q_partV_eq_2, q_vLoad_eq_2, q_vPick_eq_1, q_vBuild_eq_1, q_rowV_eq_1, q_ofRow_eq_2, q_pureRow_eq_1, q_pureRow_eq_2, q_V_cells_eq_2, q_splice_eq_1, q_stVarK_eq_1, q_storeK_eq_1, q_mapT_eq_1, q_mapT_eq_2, q_mapO_eq_1, q_mapO_eq_2, q_freeB_eq_1, q_freeT_eq_1, q_freeT_eq_2, q_freeO_eq_1, q_V_noRef_eq_1, q_K_noRef_eq_1, q_endK_eq_2, q_endL_eq_1, q_endV_eq_1, q_resL_eq_1, q_resL_eq_2, q_resX_eq_2, q_resCell_eq_1, q_one_eq_1, q_V_nrm_eq_1, q_V_nrm_eq_2, q_K_nrm_eq_1, q_K_nrm_eq_2, q_K_nrm_eq_3, q_O_nrm_eq_1, q_V_owns_eq_4, q_V_toNew_eq_2, q_C_norm_eq_4, q_C_norm_eq_5, q_C_normRow_eq_1, q_C_normRow_eq_2, q_Bool_not_true, q_Bool_not_false, q_Option_map_some, q_List_map_cons, q_List_map_nil, q_List_take_succ_cons, q_List_take_zero, q_List_drop_succ_cons, q_List_drop_zero, q_List_nil_append, q_List_length_cons, q_List_length_nil, q_List_getD_cons_zero, true_and, if_true, if_false, Bool.false_eq_true, and_self, Bool.and_true, Bool.or_true, BEq.rfl, List.append_nil, List.nodup_nil, Nat.reduceAdd, Nat.reduceLeDiff, Nat.reduceLT, Nat.reduceBEq, Nat.zero_add, Nat.add_zero, Nat.le_refl, q_learn_eq_1, q_guardP_eq_1, q_condK_eq_1, q_condB_eq_1, q_condB_eq_2, q_exKQ_eq_1, r_vIaddr_lst, norm_lst, normRows_Ce, List.length_map, lookT_here, lookT_next, Int.reduceLE, Int.reduceToNat, Int.reduceBEq, lookO_here, Option.bind_some, b_tf, Bool.false_and, uf77, uf77r48, uf77b49, uf77b52, uf77r53, uf77b54, uf77b55, uf77b56, uf77r57, uf77b58, uf77b59, uf77r60, uf77b61, uf77r62, uf77b63, uf77b64, uf77b65, uf77r66, uf77b67, uf77b68, uf77r69, uf77b70, uf77b71, uf77r72, uf77b73]
        exact fin_cell hS (by simp only [evalN, g0, g1, g2]; simp)
      · simp only [i0, i1, i2, cell_at q0, cell_at q1, cell_at q2, e0, e1, e2, q_wpLs_eq_1, q_wpLs_eq_2, q_wpLQs_eq_1, q_wpLQs_eq_2, q_wpL_eq_1, q_wpLQ_eq_1, q_AOp_dst_eq_1, q_AOp_dst_eq_8, q_AOp_dst_eq_12, q_AOp_dst_eq_22, q_exL_eq_1, q_exL_eq_4, q_exL_eq_6, q_exL_eq_8, q_exL_eq_9, q_exL_eq_11, q_exL_eq_23, q_exLQ_eq_1, q_exLQ_eq_3, q_exLQ_eq_9, q_exLQ_eq_14, q_exLQ_eq_22, q_exLQ_eq_24, q_look_eq_1, q_look_eq_2, q_insT_eq_1, q_insO_eq_1, q_awl_eq_1, q_awl_eq_2, q_awl_eq_3, q_awl_eq_5, q_awl_eq_6, q_awl_eq_7, q_awl_eq_10, q_AE_thenL_eq_1, q_AE_thenL_eq_3, q_AE_inBlockL_eq_3, q_initT_eq_1, q_initT_eq_2, q_putK_eq_1, q_vBin_eq_1, q_resV_eq_1, q_binV_eq_1, q_binInt_eq_3, q_cutInt_eq_6, q_vEqAgg_eq_1, q_mapV_eq_1, q_eqRow_eq_1, q_eqRow_eq_2, q_eqC_eq_1, q_eqC_eq_2, q_vFaddr_eq_3, q_partV_eq_1, q_partV_eq_2, q_vLoad_eq_2, q_vPick_eq_1, q_vBuild_eq_1, q_rowV_eq_1, q_ofRow_eq_2, q_pureRow_eq_1, q_pureRow_eq_2, q_V_cells_eq_2, q_splice_eq_1, q_stVarK_eq_1, q_storeK_eq_1, q_mapT_eq_1, q_mapT_eq_2, q_mapO_eq_1, q_mapO_eq_2, q_freeB_eq_1, q_freeT_eq_1, q_freeT_eq_2, q_freeO_eq_1, q_V_noRef_eq_1, q_K_noRef_eq_1, q_endK_eq_2, q_endL_eq_1, q_endV_eq_1, q_resL_eq_1, q_resL_eq_2, q_resX_eq_2, q_resCell_eq_1, q_one_eq_1, q_V_nrm_eq_1, q_V_nrm_eq_2, q_K_nrm_eq_1, q_K_nrm_eq_2, q_K_nrm_eq_3, q_O_nrm_eq_1, q_V_owns_eq_4, q_V_toNew_eq_2, q_C_norm_eq_4, q_C_norm_eq_5, q_C_normRow_eq_1, q_C_normRow_eq_2, q_Bool_not_true, q_Option_map_some, q_List_map_cons, q_List_map_nil, q_List_take_succ_cons, q_List_take_zero, q_List_drop_succ_cons, q_List_drop_zero, q_List_nil_append, q_List_length_cons, q_List_length_nil, q_List_getD_cons_zero, true_and, if_true, if_false, Bool.false_eq_true, and_self, Bool.and_true, Bool.true_and, Bool.or_true, BEq.rfl, List.append_nil, List.nodup_nil, Nat.reduceAdd, Nat.reduceLeDiff, Nat.reduceLT, Nat.reduceBEq, Nat.zero_add, Nat.add_zero, Nat.le_refl, q_learn_eq_1, q_guardP_eq_1, q_condK_eq_1, q_condB_eq_1, q_condB_eq_2, q_exKQ_eq_1, condB_beq, r_vIaddr_lst, norm_lst, normRows_Ce, List.length_map, lookT_here, lookT_next, Int.reduceLE, Int.reduceToNat, Int.reduceBEq, lookO_here, Option.bind_some, uf77, uf77r48, uf77b49, uf77r50, uf77b51, uf77b52, uf77r53, uf77b54, uf77b55, uf77b56, uf77r57, uf77b58, uf77b59, uf77r60, uf77b61, uf77r62, uf77b63, uf77b64, uf77b65, uf77r66, uf77b67, uf77b68, uf77r69, uf77b70, uf77b71, uf77r72, uf77b73]
        refine ⟨fun h => fin_cell hS (by simp only [evalN, g0, g1, g2]; simp [h]), fun h => fin_cell hS (by simp only [evalN, g0, g1, g2]; simp [h])⟩
  by_cases c45 : op = 4 ∨ op = 5
  · have hS' : S (encCV (logic ⟨k0, n0⟩ ⟨k1, n1⟩ (if op = 5 then 1 else 0))) := by
      refine fin hS (encCV_eq ?_)
      rcases c45 with rfl | rfl <;> simp only [evalN, g0, g1] <;> simp
    rcases c45 with rfl | rfl
    · simp only [i0, i1, cell_at q0, cell_at q1, e0, e1, q_wpLs_eq_1, q_wpLs_eq_2, q_wpL_eq_1, q_exL_eq_1, q_exL_eq_4, q_exL_eq_11, q_exL_eq_28, q_look_eq_1, q_look_eq_2, q_insT_eq_1, q_insO_eq_1, q_awl_eq_1, q_awl_eq_2, q_awl_eq_5, q_awl_eq_6, q_awl_eq_7, q_AE_thenL_eq_1, q_initT_eq_1, q_initT_eq_2, q_putK_eq_1, q_vBin_eq_1, q_resV_eq_1, q_binV_eq_1, q_binInt_eq_3, q_cutInt_eq_6, q_freeB_eq_1, q_freeT_eq_1, q_freeT_eq_2, q_freeO_eq_1, q_V_noRef_eq_1, q_K_noRef_eq_1, q_List_map_cons, q_List_map_nil, true_and, if_true, Bool.and_true, Bool.or_true, BEq.rfl, Nat.reduceAdd, Nat.reduceBEq, Nat.zero_add, q_learn_eq_1, q_condK_eq_1, q_condB_eq_1, q_condB_eq_2, lookT_here, lookT_next, Int.reduceBEq, uf77, uf77r46, uf77b47, uf77b59, uf77r60, uf77b61, uf77r62, uf77b63, uf77b64, uf77b65, uf77r66, uf77b67, uf77b68, uf77r69, uf77b70, uf77b71, uf77r72, uf77b73]
      refine call_r (s94 false) ?_
      cases k0 <;> cases k1
      all_goals
        simp only [encCV, encCell, yes, i0, i1, cell_at q0, cell_at q1, e0, e1, q_wpLs_eq_1, q_wpLs_eq_2, q_wpLQs_eq_1, q_wpLQs_eq_2, q_wpL_eq_1, q_wpLQ_eq_1, q_putDL_eq_1, q_AOp_dst_eq_1, q_AOp_dst_eq_8, q_AOp_dst_eq_12, q_AOp_dst_eq_14, q_AOp_dst_eq_20, q_AOp_dst_eq_22, q_exL_eq_1, q_exL_eq_3, q_exL_eq_4, q_exL_eq_6, q_exL_eq_8, q_exL_eq_9, q_exL_eq_11, q_exL_eq_15, q_exL_eq_21, q_exL_eq_23, q_exL_eq_28, q_exLQ_eq_1, q_exLQ_eq_3, q_exLQ_eq_9, q_exLQ_eq_14, q_exLQ_eq_22, q_exLQ_eq_24, q_look_eq_1, q_look_eq_2, q_insT_eq_1, q_insO_eq_1, q_awl_eq_1, q_awl_eq_2, q_awl_eq_3, q_awl_eq_5, q_awl_eq_6, q_awl_eq_7, q_awl_eq_10, q_AE_thenL_eq_1, q_AE_thenL_eq_3, q_AE_inBlockL_eq_1, q_AE_inBlockL_eq_3, q_putK_eq_1, q_vBin_eq_1, q_resV_eq_1, q_binV_eq_1, q_binInt_eq_3, q_cutInt_eq_6, q_vEqAgg_eq_1, q_mapV_eq_1, q_eqRow_eq_1, q_eqRow_eq_2, q_eqC_eq_1, q_eqC_eq_2, q_vUn_eq_1, q_unV_eq_2, q_mapC_eq_1, q_vFaddr_eq_3, q_partV_eq_1, q_partV_eq_2, q_loadO_eq_1, q_isV_eq_1, q_vLoad_eq_1, q_vLoad_eq_2, q_vPick_eq_1, q_vPick_eq_2, q_vBuild_eq_1, q_rowV_eq_1, q_ofRow_eq_2, q_pureRow_eq_1, q_pureRow_eq_2, q_V_cells_eq_2, q_splice_eq_1, q_stVarK_eq_1, q_storeK_eq_1, q_mapT_eq_1, q_mapT_eq_2, q_mapO_eq_1, q_mapO_eq_2, q_freeB_eq_1, q_freeT_eq_1, q_freeT_eq_2, q_freeO_eq_1, q_freeO_eq_2, q_V_noRef_eq_1, q_V_noRef_eq_2, q_K_noRef_eq_1, q_K_noRef_eq_3, q_O_noRef_eq_1, q_endK_eq_2, q_endL_eq_1, q_endV_eq_1, q_resL_eq_1, q_resL_eq_2, q_resX_eq_2, q_resCell_eq_1, q_one_eq_1, q_V_nrm_eq_1, q_V_nrm_eq_2, q_V_nrm_eq_5, q_K_nrm_eq_1, q_K_nrm_eq_2, q_K_nrm_eq_3, q_O_nrm_eq_1, q_V_owns_eq_4, q_V_toNew_eq_2, q_C_norm_eq_4, q_C_norm_eq_5, q_C_normRow_eq_1, q_C_normRow_eq_2, q_regN_eq_2, q_V_reg_eq_4, q_freesL_eq_1, q_addsL_eq_1, q_regK_eq_1, q_retK_eq_2, q_Bool_not_true, q_Bool_not_false, q_Option_map_some, q_List_map_cons, q_List_map_nil, q_List_take_succ_cons, q_List_take_zero, q_List_drop_succ_cons, q_List_drop_zero, q_List_nil_append, q_List_length_cons, q_List_length_nil, q_List_getD_cons_zero, q_List_getD_cons_succ, q_List_all_cons, q_List_all_nil, true_and, if_true, if_false, Bool.false_eq_true, and_self, bne_iff_ne, ne_eq, Bool.and_true, Bool.true_and, Bool.or_true, Bool.false_or, BEq.rfl, List.append_nil, List.nodup_nil, Nat.reduceAdd, Nat.reduceMul, Nat.reduceEqDiff, Nat.reduceLeDiff, Nat.reduceLT, Nat.reduceBEq, Nat.zero_add, Nat.add_zero, Int.toNat_zero, Nat.le_refl, q_learn_eq_1, not_false_eq_true, q_guardP_eq_2, q_condK_eq_1, q_condB_eq_1, q_condB_eq_2, q_exK_eq_1, q_exKQ_eq_1, condB_beq, r_vIaddr_lst, norm_lst, normRows_Ce, List.length_map, lookT_here, lookT_next, Int.reduceLE, Int.reduceToNat, lookO_here, lookO_next, Option.bind_some, b_ft, Bool.false_and, uf77r3, uf77b4, uf77b15, uf77r16, uf77b17, uf77r18, uf77b19, uf77b20, uf77b21, uf77r22, uf77b23, uf77b24, uf77r25, uf77b26, uf77r27, uf77b28, uf77b29, uf77r30, uf77b31, uf77b32, uf77r41, uf77b42, uf77b43, uf77r44, uf77b45]
        repeat' (first | with_reducible refine And.intro ?_ ?_ | with_reducible intro _)
      all_goals first | (exact fin_cell hS' (by simp_all [logic])) | (refine call_r (s94 true) ?_; simp only [encCV, encCell, yes, q_wpLs_eq_1, q_wpLs_eq_2, q_wpL_eq_1, q_exL_eq_9, q_look_eq_1, q_insT_eq_1, q_insO_eq_1, q_awl_eq_10, q_AE_thenL_eq_3, q_AE_inBlockL_eq_3, q_ofRow_eq_2, q_pureRow_eq_1, q_pureRow_eq_2, q_V_cells_eq_2, q_splice_eq_1, q_stVarK_eq_1, q_storeK_eq_1, q_mapT_eq_1, q_mapT_eq_2, q_mapO_eq_1, q_mapO_eq_2, q_endK_eq_2, q_endL_eq_1, q_endV_eq_1, q_resL_eq_1, q_resL_eq_2, q_resX_eq_2, q_resCell_eq_1, q_one_eq_1, q_V_nrm_eq_1, q_V_nrm_eq_2, q_K_nrm_eq_1, q_K_nrm_eq_2, q_K_nrm_eq_3, q_O_nrm_eq_1, q_V_owns_eq_4, q_V_toNew_eq_2, q_C_norm_eq_4, q_C_norm_eq_5, q_C_normRow_eq_1, q_C_normRow_eq_2, q_regN_eq_2, q_V_reg_eq_4, q_freesL_eq_1, q_addsL_eq_1, q_regK_eq_1, q_retK_eq_2, q_Option_map_some, q_List_map_cons, q_List_map_nil, q_List_take_succ_cons, q_List_take_zero, q_List_drop_succ_cons, q_List_drop_zero, q_List_nil_append, q_List_length_cons, q_List_length_nil, true_and, if_true, and_self, List.append_nil, List.nodup_nil, Nat.reduceAdd, Nat.reduceMul, Nat.reduceLT, Nat.reduceBEq, Nat.zero_add, Nat.le_refl, norm_lst, normRows_Ce, lookT_here, lookT_next, lookO_here, lookO_next]; exact fin_cell hS' (by simp_all [logic]))
    · simp only [i0, i1, cell_at q0, cell_at q1, e0, e1, q_wpLs_eq_1, q_wpLs_eq_2, q_wpL_eq_1, q_exL_eq_1, q_exL_eq_4, q_exL_eq_11, q_exL_eq_28, q_look_eq_1, q_look_eq_2, q_insT_eq_1, q_insO_eq_1, q_awl_eq_2, q_awl_eq_5, q_awl_eq_6, q_awl_eq_7, q_AE_thenL_eq_1, q_initT_eq_1, q_initT_eq_2, q_putK_eq_1, q_vBin_eq_1, q_resV_eq_1, q_binV_eq_1, q_binInt_eq_3, q_cutInt_eq_6, q_freeB_eq_1, q_freeT_eq_1, q_freeT_eq_2, q_freeO_eq_1, q_V_noRef_eq_1, q_K_noRef_eq_1, q_List_map_cons, q_List_map_nil, true_and, if_true, Bool.and_true, Bool.or_true, BEq.rfl, Nat.reduceAdd, Nat.reduceBEq, Nat.zero_add, q_learn_eq_1, q_condK_eq_1, q_condB_eq_1, q_condB_eq_2, lookT_here, lookT_next, Int.reduceBEq, uf77, uf77r46, uf77b47, uf77b59, uf77r60, uf77b61, uf77r62, uf77b63, uf77b64, uf77b65, uf77r66, uf77b67, uf77b68, uf77r69, uf77b70, uf77b71, uf77r72, uf77b73]
      refine call_r (s94 true) ?_
      cases k0 <;> cases k1
      all_goals
        simp only [encCV, encCell, yes, i0, i1, cell_at q0, cell_at q1, e0, e1, q_wpLs_eq_1, q_wpLs_eq_2, q_wpLQs_eq_1, q_wpLQs_eq_2, q_wpL_eq_1, q_wpLQ_eq_1, q_putDL_eq_1, q_AOp_dst_eq_1, q_AOp_dst_eq_8, q_AOp_dst_eq_12, q_AOp_dst_eq_14, q_AOp_dst_eq_20, q_AOp_dst_eq_22, q_exL_eq_1, q_exL_eq_3, q_exL_eq_4, q_exL_eq_6, q_exL_eq_8, q_exL_eq_9, q_exL_eq_11, q_exL_eq_15, q_exL_eq_21, q_exL_eq_23, q_exL_eq_28, q_exLQ_eq_1, q_exLQ_eq_3, q_exLQ_eq_9, q_exLQ_eq_14, q_exLQ_eq_22, q_exLQ_eq_24, q_look_eq_1, q_look_eq_2, q_insT_eq_1, q_insO_eq_1, q_awl_eq_1, q_awl_eq_2, q_awl_eq_3, q_awl_eq_5, q_awl_eq_6, q_awl_eq_7, q_awl_eq_10, q_AE_thenL_eq_1, q_AE_thenL_eq_3, q_AE_inBlockL_eq_1, q_AE_inBlockL_eq_3, q_putK_eq_1, q_vBin_eq_1, q_resV_eq_1, q_binV_eq_1, q_binInt_eq_3, q_cutInt_eq_6, q_vEqAgg_eq_1, q_mapV_eq_1, q_eqRow_eq_1, q_eqRow_eq_2, q_eqC_eq_1, q_eqC_eq_2, q_vUn_eq_1, q_unV_eq_2, q_mapC_eq_1, q_vFaddr_eq_3, q_partV_eq_1, q_partV_eq_2, q_loadO_eq_1, q_isV_eq_1, q_vLoad_eq_1, q_vLoad_eq_2, q_vPick_eq_1, q_vPick_eq_2, q_vBuild_eq_1, q_rowV_eq_1, q_ofRow_eq_2, q_pureRow_eq_1, q_pureRow_eq_2, q_V_cells_eq_2, q_splice_eq_1, q_stVarK_eq_1, q_storeK_eq_1, q_mapT_eq_1, q_mapT_eq_2, q_mapO_eq_1, q_mapO_eq_2, q_freeB_eq_1, q_freeT_eq_1, q_freeT_eq_2, q_freeO_eq_1, q_freeO_eq_2, q_V_noRef_eq_1, q_V_noRef_eq_2, q_K_noRef_eq_1, q_K_noRef_eq_3, q_O_noRef_eq_1, q_endK_eq_2, q_endL_eq_1, q_endV_eq_1, q_resL_eq_1, q_resL_eq_2, q_resX_eq_2, q_resCell_eq_1, q_one_eq_1, q_V_nrm_eq_1, q_V_nrm_eq_2, q_V_nrm_eq_5, q_K_nrm_eq_1, q_K_nrm_eq_2, q_K_nrm_eq_3, q_O_nrm_eq_1, q_V_owns_eq_4, q_V_toNew_eq_2, q_C_norm_eq_4, q_C_norm_eq_5, q_C_normRow_eq_1, q_C_normRow_eq_2, q_regN_eq_2, q_V_reg_eq_4, q_freesL_eq_1, q_addsL_eq_1, q_regK_eq_1, q_retK_eq_2, q_Bool_not_true, q_Bool_not_false, q_Option_map_some, q_List_map_cons, q_List_map_nil, q_List_take_succ_cons, q_List_take_zero, q_List_drop_succ_cons, q_List_drop_zero, q_List_nil_append, q_List_length_cons, q_List_length_nil, q_List_getD_cons_zero, q_List_getD_cons_succ, q_List_all_cons, q_List_all_nil, true_and, if_true, if_false, Bool.false_eq_true, and_self, bne_iff_ne, ne_eq, Bool.and_true, Bool.true_and, Bool.or_true, Bool.false_or, BEq.rfl, List.append_nil, List.nodup_nil, Nat.reduceAdd, Nat.reduceMul, Nat.reduceEqDiff, Nat.reduceLeDiff, Nat.reduceLT, Nat.reduceBEq, Nat.zero_add, Nat.add_zero, Int.toNat_zero, Nat.le_refl, q_learn_eq_1, not_false_eq_true, q_guardP_eq_2, q_condK_eq_1, q_condB_eq_1, q_condB_eq_2, q_exK_eq_1, q_exKQ_eq_1, condB_beq, r_vIaddr_lst, norm_lst, normRows_Ce, List.length_map, lookT_here, lookT_next, Int.reduceLE, Int.reduceToNat, Int.reduceBEq, lookO_here, lookO_next, Option.bind_some, b_ft, Bool.false_and, uf77r3, uf77b4, uf77b15, uf77r16, uf77b17, uf77r18, uf77b19, uf77b20, uf77b21, uf77r22, uf77b23, uf77b24, uf77r25, uf77b26, uf77r27, uf77b28, uf77b29, uf77r30, uf77b31, uf77b32, uf77r41, uf77b42, uf77b43, uf77r44, uf77b45]
        repeat' (first | with_reducible refine And.intro ?_ ?_ | with_reducible intro _)
      all_goals first | (exact fin_cell hS' (by simp_all [logic])) | (refine call_r (s94 false) ?_; simp only [encCV, encCell, yes, q_wpLs_eq_1, q_wpLs_eq_2, q_wpL_eq_1, q_exL_eq_9, q_look_eq_1, q_insT_eq_1, q_insO_eq_1, q_awl_eq_10, q_AE_thenL_eq_3, q_AE_inBlockL_eq_3, q_ofRow_eq_2, q_pureRow_eq_1, q_pureRow_eq_2, q_V_cells_eq_2, q_splice_eq_1, q_stVarK_eq_1, q_storeK_eq_1, q_mapT_eq_1, q_mapT_eq_2, q_mapO_eq_1, q_mapO_eq_2, q_endK_eq_2, q_endL_eq_1, q_endV_eq_1, q_resL_eq_1, q_resL_eq_2, q_resX_eq_2, q_resCell_eq_1, q_one_eq_1, q_V_nrm_eq_1, q_V_nrm_eq_2, q_K_nrm_eq_1, q_K_nrm_eq_2, q_K_nrm_eq_3, q_O_nrm_eq_1, q_V_owns_eq_4, q_V_toNew_eq_2, q_C_norm_eq_4, q_C_norm_eq_5, q_C_normRow_eq_1, q_C_normRow_eq_2, q_regN_eq_2, q_V_reg_eq_4, q_freesL_eq_1, q_addsL_eq_1, q_regK_eq_1, q_retK_eq_2, q_Option_map_some, q_List_map_cons, q_List_map_nil, q_List_take_succ_cons, q_List_take_zero, q_List_drop_succ_cons, q_List_drop_zero, q_List_nil_append, q_List_length_cons, q_List_length_nil, true_and, if_true, if_false, Bool.false_eq_true, and_self, List.append_nil, List.nodup_nil, Nat.reduceAdd, Nat.reduceMul, Nat.reduceLT, Nat.reduceBEq, Nat.zero_add, Nat.le_refl, norm_lst, normRows_Ce, lookT_here, lookT_next, lookO_here, lookO_next]; exact fin_cell hS' (by simp_all [logic]))
  simp only [not_or] at c45
  have hev : evalN op l = if k0 = false ∨ k1 = false then ⟨false, 0⟩ else number op n0 n1 := by
    simp only [evalN, g0, g1, if_neg c3, if_neg c6, if_neg c45.1, if_neg c45.2]
  rw [hev] at hS
  cases k0 <;> cases k1
  all_goals simp only [i0, i1, cell_at q0, cell_at q1, e0, e1, c3, c6, c45.1, c45.2, q_wpLs_eq_1, q_wpLs_eq_2, q_wpLQs_eq_1, q_wpLQs_eq_2, q_wpL_eq_1, q_wpLQ_eq_1, q_putDL_eq_1, q_AOp_dst_eq_1, q_AOp_dst_eq_8, q_AOp_dst_eq_12, q_AOp_dst_eq_14, q_AOp_dst_eq_20, q_AOp_dst_eq_22, q_exL_eq_1, q_exL_eq_3, q_exL_eq_4, q_exL_eq_6, q_exL_eq_8, q_exL_eq_9, q_exL_eq_11, q_exL_eq_15, q_exL_eq_21, q_exL_eq_23, q_exL_eq_28, q_exLQ_eq_1, q_exLQ_eq_3, q_exLQ_eq_9, q_exLQ_eq_14, q_exLQ_eq_22, q_exLQ_eq_24, q_look_eq_1, q_look_eq_2, q_insT_eq_1, q_insO_eq_1, q_awl_eq_1, q_awl_eq_2, q_awl_eq_3, q_awl_eq_5, q_awl_eq_6, q_awl_eq_7, q_awl_eq_10, q_AE_thenL_eq_1, q_AE_thenL_eq_3, q_AE_inBlockL_eq_1, q_AE_inBlockL_eq_3, q_initT_eq_1, q_initT_eq_2, q_putK_eq_1, q_vBin_eq_1, q_resV_eq_1, q_binV_eq_1, q_binInt_eq_3, q_cutInt_eq_6, q_cutInt_eq_8, q_vEqAgg_eq_1, q_vUn_eq_1, q_unV_eq_2, q_mapC_eq_1, q_vFaddr_eq_3, q_partV_eq_1, q_partV_eq_2, q_vLoad_eq_2, q_vPick_eq_1, q_vPick_eq_2, q_vPick_eq_3, q_vBuild_eq_1, q_rowV_eq_1, q_ofRow_eq_2, q_pureRow_eq_1, q_pureRow_eq_2, q_V_cells_eq_2, q_splice_eq_1, q_stVarK_eq_1, q_storeK_eq_1, q_mapT_eq_1, q_mapT_eq_2, q_mapO_eq_1, q_mapO_eq_2, q_freeB_eq_1, q_freeT_eq_1, q_freeT_eq_2, q_freeO_eq_1, q_V_noRef_eq_1, q_K_noRef_eq_1, q_endK_eq_2, q_endL_eq_1, q_endV_eq_1, q_resL_eq_1, q_resL_eq_2, q_resX_eq_2, q_resCell_eq_1, q_one_eq_1, q_V_nrm_eq_1, q_V_nrm_eq_2, q_V_nrm_eq_5, q_K_nrm_eq_1, q_K_nrm_eq_2, q_K_nrm_eq_3, q_O_nrm_eq_1, q_V_owns_eq_4, q_V_toNew_eq_2, q_C_norm_eq_4, q_C_norm_eq_5, q_C_normRow_eq_1, q_C_normRow_eq_2, q_Bool_not_true, q_Bool_not_false, q_Option_map_some, q_List_map_cons, q_List_map_nil, q_List_take_succ_cons, q_List_take_zero, q_List_drop_succ_cons, q_List_drop_zero, q_List_nil_append, q_List_length_cons, q_List_length_nil, q_List_getD_cons_zero, q_List_getD_cons_succ, true_and, if_true, if_false, Bool.false_eq_true, false_implies, forall_const, and_self, Bool.and_true, Bool.or_true, List.append_nil, List.nodup_nil, Nat.reduceAdd, Nat.reduceLeDiff, Nat.reduceLT, Nat.reduceBEq, Nat.zero_add, Nat.add_zero, Int.toNat_zero, Nat.le_refl, q_learn_eq_1, not_false_eq_true, q_guardP_eq_1, q_guardP_eq_2, q_condK_eq_1, q_condB_eq_1, q_condB_eq_2, q_exK_eq_1, q_exKQ_eq_1, condB_beq, r_vIaddr_lst, norm_lst, normRows_Ce, List.length_map, lookT_here, lookT_next, Int.reduceLE, Int.reduceToNat, lookO_here, uf77, uf77r1, uf77b2, uf77r3, uf77b4, uf77r5, uf77b6, uf77r7, uf77b8, uf77b9, uf77r10, uf77b11, uf77b12, uf77r13, uf77b14, uf77b15, uf77r16, uf77b17, uf77r18, uf77b19, uf77b20, uf77b21, uf77r22, uf77b23, uf77b24, uf77r25, uf77b26, uf77r27, uf77b28, uf77b29, uf77r30, uf77b31, uf77b32, uf77r33, uf77b34, uf77r35, uf77b36, uf77b37, uf77r38, uf77b39, uf77b40, uf77r46, uf77b47, uf77r48, uf77b49, uf77b52, uf77r53, uf77b54, uf77b55, uf77b56, uf77r57, uf77b58, uf77b59, uf77r60, uf77b61, uf77r62, uf77b63, uf77b64, uf77b65, uf77r66, uf77b67, uf77b68, uf77r69, uf77b70, uf77b71, uf77r72, uf77b73]
  · exact fin_cell hS (by simp)
  · exact fin_cell hS (by simp)
  · exact fin_cell hS (by simp)
  rw [if_neg (by simp)] at hS
  refine ⟨fun h7 => ?_, fun h7 => ⟨fun h8 => ?_, fun h8 => ?_⟩⟩
  · refine call_r (s94 (decide (n0 < n1))) ?_
    simp only [encCV, encCell, q_wpLs_eq_1, q_wpLs_eq_2, q_wpL_eq_1, q_exL_eq_9, q_look_eq_1, q_insT_eq_1, q_insO_eq_1, q_awl_eq_10, q_AE_thenL_eq_3, q_AE_inBlockL_eq_3, q_ofRow_eq_2, q_pureRow_eq_1, q_pureRow_eq_2, q_V_cells_eq_2, q_splice_eq_1, q_stVarK_eq_1, q_storeK_eq_1, q_mapT_eq_1, q_mapT_eq_2, q_mapO_eq_1, q_mapO_eq_2, q_endK_eq_2, q_endL_eq_1, q_endV_eq_1, q_resL_eq_1, q_resL_eq_2, q_resX_eq_2, q_resCell_eq_1, q_one_eq_1, q_V_nrm_eq_1, q_V_nrm_eq_2, q_K_nrm_eq_1, q_K_nrm_eq_2, q_K_nrm_eq_3, q_O_nrm_eq_1, q_V_owns_eq_4, q_V_toNew_eq_2, q_C_norm_eq_4, q_C_norm_eq_5, q_C_normRow_eq_1, q_C_normRow_eq_2, q_regN_eq_2, q_V_reg_eq_4, q_freesL_eq_1, q_addsL_eq_1, q_regK_eq_1, q_retK_eq_2, q_Option_map_some, q_List_map_cons, q_List_map_nil, q_List_take_succ_cons, q_List_take_zero, q_List_drop_succ_cons, q_List_drop_zero, q_List_nil_append, q_List_length_cons, q_List_length_nil, true_and, if_true, and_self, List.append_nil, List.nodup_nil, Nat.reduceAdd, Nat.reduceMul, Nat.reduceLT, Nat.reduceBEq, Nat.zero_add, Nat.le_refl, norm_lst, normRows_Ce, lookT_here, lookT_next, lookO_here]
    exact fin hS (encCV_eq (a := yes (decide (n0 < n1))) (by simp [number, h7]))
  · refine call_r (s94 (n0 == n1)) ?_
    simp only [encCV, encCell, q_wpLs_eq_1, q_wpLs_eq_2, q_wpL_eq_1, q_exL_eq_9, q_look_eq_1, q_insT_eq_1, q_insO_eq_1, q_awl_eq_10, q_AE_thenL_eq_3, q_AE_inBlockL_eq_3, q_ofRow_eq_2, q_pureRow_eq_1, q_pureRow_eq_2, q_V_cells_eq_2, q_splice_eq_1, q_stVarK_eq_1, q_storeK_eq_1, q_mapT_eq_1, q_mapT_eq_2, q_mapO_eq_1, q_mapO_eq_2, q_endK_eq_2, q_endL_eq_1, q_endV_eq_1, q_resL_eq_1, q_resL_eq_2, q_resX_eq_2, q_resCell_eq_1, q_one_eq_1, q_V_nrm_eq_1, q_V_nrm_eq_2, q_K_nrm_eq_1, q_K_nrm_eq_2, q_K_nrm_eq_3, q_O_nrm_eq_1, q_V_owns_eq_4, q_V_toNew_eq_2, q_C_norm_eq_4, q_C_norm_eq_5, q_C_normRow_eq_1, q_C_normRow_eq_2, q_regN_eq_2, q_V_reg_eq_4, q_freesL_eq_1, q_addsL_eq_1, q_regK_eq_1, q_retK_eq_2, q_Option_map_some, q_List_map_cons, q_List_map_nil, q_List_take_succ_cons, q_List_take_zero, q_List_drop_succ_cons, q_List_drop_zero, q_List_nil_append, q_List_length_cons, q_List_length_nil, true_and, if_true, and_self, List.append_nil, List.nodup_nil, Nat.reduceAdd, Nat.reduceMul, Nat.reduceLT, Nat.reduceBEq, Nat.zero_add, Nat.le_refl, norm_lst, normRows_Ce, lookT_here, lookT_next, lookO_here]
    have e : (n0 == n1) = decide (n0 = n1) := by by_cases h : n0 = n1 <;> simp [h]
    exact fin hS (encCV_eq (a := yes (n0 == n1)) (by simp [number, h8, e]))
  · refine call_s (s95 op n0 n1 b0 b1) ?_
    simp only [q_wpLs_eq_1, q_wpLs_eq_2, q_wpL_eq_1, q_exL_eq_6, q_exL_eq_9, q_look_eq_1, q_look_eq_2, q_insT_eq_1, q_insO_eq_1, q_awl_eq_10, q_putK_eq_1, q_vBuild_eq_1, q_vBuild_eq_2, q_rowV_eq_1, q_ofRow_eq_2, q_pureRow_eq_1, q_pureRow_eq_2, q_V_cells_eq_1, q_V_cells_eq_2, q_splice_eq_1, q_stVarK_eq_1, q_storeK_eq_1, q_mapT_eq_1, q_mapT_eq_2, q_mapO_eq_1, q_mapO_eq_2, q_endK_eq_2, q_endL_eq_1, q_endV_eq_1, q_resL_eq_1, q_resL_eq_2, q_resX_eq_2, q_resCell_eq_1, q_one_eq_1, q_V_nrm_eq_1, q_V_nrm_eq_2, q_K_nrm_eq_1, q_K_nrm_eq_2, q_K_nrm_eq_3, q_O_nrm_eq_1, q_V_owns_eq_4, q_V_toNew_eq_2, q_C_norm_eq_4, q_C_norm_eq_5, q_C_normRow_eq_1, q_C_normRow_eq_2, q_Option_map_some, q_List_map_cons, q_List_map_nil, q_List_take_succ_cons, q_List_take_zero, q_List_drop_succ_cons, q_List_drop_zero, q_List_nil_append, q_List_cons_append, q_List_length_cons, q_List_length_nil, true_and, if_true, and_self, List.append_nil, List.nodup_nil, Nat.reduceAdd, Nat.reduceLeDiff, Nat.reduceLT, Nat.reduceBEq, Nat.zero_add, Nat.le_refl, norm_lst, normRows_Ce, lookT_here, lookT_next, lookO_here]
    refine fin_cell hS ?_
    simp only [number, arith, if_neg h7, if_neg h8]
    (repeat' split) <;> rfl
end Go.Abs


set_option maxRecDepth 100000
namespace Go.Proofs
open Go.Shelf
def Try.laysGrow_ren : Go.Shelf.Ren :=
  { f := fun x =>
      match x with
      | 4 => 96
      | n => n,
    t := fun x =>
      match x with
      | 22 => 36
      | 25 => 3
      | 3 => 3
      | 4 => 4
      | 9 => 9
      | 20 => 20
      | 0 => 0
      | n => n,
    g := fun n => n }
theorem Try.laysGrow : Lays8.n4 Try.prog Try.laysGrow_ren :=
  { mixed := Eq.refl true,
    f4 := Exists.intro "slices.Grow[[]int,int]" ⟨of_decide_eq_true (id (Eq.refl true)),
      Eq.trans Try.func96 (congrArg some (Eq.refl { Body8.n4 Try.laysGrow_ren with name := "slices.Grow[[]int,int]" }))⟩,
    t0 := Try.underlying0, a0 := Try.isAgg0, z0 := Try.sizeOf0, v0 := Try.zeroValue0, t3 := Try.underlying3, a3 := Try.isAgg3, z3 := Try.sizeOf3, v3 := Try.zeroValue3,
    t4 := Try.underlying4, a4 := Try.isAgg4, z4 := Try.sizeOf4, v4 := Try.zeroValue4, t9 := Try.underlying9, a9 := Try.isAgg9, z9 := Try.sizeOf9, v9 := Try.zeroValue9,
    t20 := Try.underlying20, a20 := Try.isAgg20, z20 := Try.sizeOf20, v20 := Try.zeroValue20, t22 := Try.underlying36, a22 := Try.isAgg36, z22 := Try.sizeOf36, v22 := Try.zeroValue36 }
end Go.Proofs
namespace Go.Abs
open Go.Proofs
theorem s96 {n : Nat} (h : n ≤ 1000000) : Spec Try.prog 96 [.k (.c (.list 0 (some true) [])), .int .i64 n] (fun r => r = .k (.newl 3 1 none [])) :=
  grow_spec (i0 := (Try.prog.info? 3).getD default) (z := .int .i64 0) Try.laysGrow (callable_at (by kernel_rfl)) (by kernel_rfl) (by kernel_rfl) (by kernel_rfl) rfl (by
    have : ((Try.prog.info? (Try.laysGrow_ren.t 25)).getD default).bytes = 8 := by kernel_rfl
    show n * ((Try.prog.info? (Try.laysGrow_ren.t 25)).getD default).bytes ≤ _
    rw [this]; omega) (by omega)
end Go.Abs


set_option maxRecDepth 100000
set_option maxHeartbeats 4000000
namespace Go.Abs
open Go.Proofs
def encL (l : List Int) : List C := [lstC 1 (ints l)]
@[simp] theorem encL_norm (l : List Int) : C.normRow (encL l) = encL l := by simp [encL, C.normRow]
@[simp] theorem normRows_L (l : List (List Int)) : C.normRows (l.map encL) = l.map encL := normRows_eq encL_norm l
theorem encL_at {l : List (List Int)} {i : Nat} (h : i < l.length) : (l.map encL).getD i [] = [lstC 1 (ints l[i])] := by simp [h, encL]
theorem call_n {P : Program} {f : FuncId} {vs : List V} {K : KK} {d : Nat} {ts : TS} {os : OS} {args : List V} {e sz : Nat} {nl : Option Bool} {rows : List (List C)} {X : Prop} (hs : Spec P f args (fun r' => r' = .k (.newl e sz nl rows)))
    (hk : K (insT d (.k (.own d)) ts) (insO d (.arr e sz nl rows) os)) (hp : vs.all (fun v => (lendL os v).isPure) = true := by simp [lendL, lendO, lookO, V.isPure]) (ha : vs.map (lendL os) = args := by simp [lendL, lendO, lookO])
    (ht : vs.all (fun v => v.toks.isEmpty) = true := by simp [V.toks, K.toks]) (hf : freeB d ts os := by first | rfl | simp [freeB, freeT, freeO, V.noRef, V.noRefL, O.noRef, Abs.K.noRef, r_all_noRef]) : callK P f vs [] K (some d) ts os ∨ X := by
  refine .inl ⟨hp, _, .inr ⟨rfl, by rw [ha]; exact hs⟩, ?_⟩
  rw [if_neg (by simp [V.scalar])]
  refine ⟨ht, ?_⟩
  show regK _ _ _ _ _ _
  refine ⟨⟨⟨hf, .inl rfl⟩, trivial⟩, hk⟩
theorem flat_take {l : List (List Int)} {i : Nat} (h : i < l.length) : (l.take (i + 1)).flatten = (l.take i).flatten ++ l[i] := by
  rw [List.take_add_one, List.getElem?_eq_getElem h, List.flatten_append]; simp
theorem flatT_le {l : List (List Int)} (i : Nat) : (l.take i).flatten.length ≤ l.flatten.length := by
  conv => rhs; rw [← List.take_append_drop i l, List.flatten_append, List.length_append]
  omega
theorem s78 (l : List (List Int)) (h : l.flatten.length ≤ 1000000) : Spec Try.prog 78 [lst 1 (l.map encL)] (fun r => r = .k (.newl 3 1 none (ints l.flatten))) := by
  refine Spec.of_len hf78 fun hlen => ?_
  have hl := len_lst (sz := 1) (rows := l.map encL) List.mem_cons_self hlen
  rw [List.length_map] at hl
  clear hlen
  refine Spec.of_awlS hf78 okf78 (by simp) fun S hS => ?_
  simp only [q_wpLs_eq_1, q_wpLs_eq_2, q_wpL_eq_1, q_exL_eq_1, q_exL_eq_2, q_exL_eq_30, q_look_eq_1, q_look_eq_2, q_insT_eq_1, q_insO_eq_1, q_awl_eq_2, q_awl_eq_5, q_awl_eq_7, q_AE_thenL_eq_1, q_initT_eq_1, q_initT_eq_2, q_putK_eq_1, q_freeB_eq_1, q_freeT_eq_1, q_freeT_eq_2, q_freeO_eq_1, q_V_noRef_eq_1, q_K_noRef_eq_1, true_and, Bool.and_true, Bool.or_true, Nat.reduceBEq, Nat.zero_add, r_vLen_lst, List.length_map, lookT_here, lookT_next, uf78, uf78b36, uf78r37, uf78b38, uf78b39, uf78r40, uf78b41, uf78r42, uf78b43]
  rw [uf78l35]
  refine awl_loop (fun i : Nat => [(0, lst 1 (l.map encL)), (3, .int .i64 ((l.take i).flatten.length : Nat)), (9, lst 1 (l.map encL)), (10, .int .i64 l.length), (11, .int .i64 i)]) (fun _ => [])
    (fun i => i ≤ l.length) (fun i => l.length - i) 0 rfl rfl (Nat.zero_le _) ?_
  intro i hi
  by_cases hlt : i < l.length
  · have c1 : (i : Int) < l.length := by omega
    have c4 : IntKind.i64.wrap ((i : Int) + 1) = (i : Int) + 1 := wrap_in (by omega) (by omega)
    have hf := flat_take hlt
    have hle := flatT_le (l := l) (i + 1)
    have hn : (l.take (i + 1)).flatten.length = (l.take i).flatten.length + l[i].length := by rw [hf]; simp
    have c5 : IntKind.i64.wrap (((l.take i).flatten.length : Nat) + (l[i].length : Int)) = ((l.take (i + 1)).flatten.length : Nat) := by rw [wrap_in (by omega) (by omega)]; omega
    have c6 : ¬ ((((l.take (i + 1)).flatten.length : Nat) : Int) < 0) := by omega
    simp only [c1, c4, c5, c6, encL_at hlt, ints_len, q_wpLs_eq_1, q_wpLs_eq_2, q_wpL_eq_1, q_exL_eq_1, q_exL_eq_8, q_exL_eq_11, q_exL_eq_23, q_exL_eq_30, q_look_eq_1, q_look_eq_2, q_lookO_eq_1, q_insT_eq_1, q_awl_eq_1, q_awl_eq_2, q_awl_eq_5, q_awl_eq_6, q_awl_eq_7, q_AE_thenL_eq_1, q_AE_inBlockL_eq_1, q_putK_eq_1, q_vBin_eq_1, q_resV_eq_1, q_binV_eq_1, q_binInt_eq_3, q_cutInt_eq_1, q_cutInt_eq_8, q_partV_eq_2, q_vLoad_eq_2, q_List_getD_cons_zero, true_and, if_true, and_self, Nat.reduceBEq, Nat.zero_add, Int.toNat_natCast, Nat.le_refl, Int.natCast_nonneg, q_learn_eq_1, q_condK_eq_1, q_condB_eq_1, q_condB_eq_2, decide_true, decide_false, r_vLen_lst, r_vIaddr_lst, ints_len, List.length_map, lookT_here, lookT_next, uf78r20, uf78b22, uf78r23, uf78b24, uf78r25, uf78b26, uf78r27, uf78b28, uf78b29, uf78b30, uf78b31, uf78b32, uf78r33, uf78b34]
    exact Next.intro (i + 1) rfl rfl (by omega) (by omega)
  · have c1 : ¬ (i : Int) < l.length := by omega
    obtain rfl : i = l.length := by omega
    rw [List.take_length]
    simp only [c1, q_wpLs_eq_1, q_wpLs_eq_2, q_wpL_eq_1, q_exL_eq_1, q_exL_eq_11, q_exL_eq_28, q_look_eq_1, q_look_eq_2, q_insT_eq_1, q_awl_eq_2, q_awl_eq_5, q_awl_eq_6, q_awl_eq_9, q_AE_thenL_eq_1, q_AE_thenL_eq_2, q_AE_inBlockL_eq_2, q_putK_eq_1, q_vBin_eq_1, q_resV_eq_1, q_binV_eq_1, q_binInt_eq_3, q_cutInt_eq_8, q_List_map_cons, q_List_map_nil, true_and, if_true, Nat.reduceBEq, q_learn_eq_1, q_condK_eq_1, q_condB_eq_2, decide_false, lookT_here, lookT_next, uf78r18, uf78b19, uf78b31, uf78b32, uf78r33, uf78b34]
    refine call_n (s96 h) ?_
    simp only [q_wpLs_eq_1, q_wpLs_eq_2, q_wpL_eq_1, q_exL_eq_1, q_exL_eq_30, q_look_eq_1, q_look_eq_2, q_insT_eq_1, q_insO_eq_1, q_awl_eq_2, q_awl_eq_5, q_awl_eq_7, q_AE_thenL_eq_1, q_putK_eq_1, true_and, Nat.reduceBEq, r_vLen_lst, List.length_map, lookT_here, lookT_next, uf78b14, uf78r15, uf78b16, uf78b17]
    rw [uf78l13]
    refine awl_loop (fun x : Nat × Option Bool => [(6, .k (.own 24)), (25, lst 1 (l.map encL)), (26, .int .i64 l.length), (27, .int .i64 x.1)]) (fun x => [(24, .arr 3 1 x.2 (ints (l.take x.1).flatten))])
      (fun x => x.1 ≤ l.length) (fun x => l.length - x.1) (0, none) rfl rfl (Nat.zero_le _) ?_
    rintro ⟨i, nl⟩ hi
    simp only [] at hi
    by_cases hlt : i < l.length
    · have c1 : (i : Int) < l.length := by omega
      have c4 : IntKind.i64.wrap ((i : Int) + 1) = (i : Int) + 1 := wrap_in (by omega) (by omega)
      have hf := flat_take hlt
      have hle := flatT_le (l := l) (i + 1)
      have hn : (l.take (i + 1)).flatten.length = (l.take i).flatten.length + l[i].length := by rw [hf]; simp
      simp only [c1, c4, encL_at hlt, ints_len, ints_append, ← hf, q_wpLs_eq_1, q_wpLs_eq_2, q_wpL_eq_1, q_exL_eq_1, q_exL_eq_8, q_exL_eq_11, q_exL_eq_23, q_exL_eq_33, q_look_eq_1, q_look_eq_2, q_insT_eq_1, q_insO_eq_1, q_awl_eq_1, q_awl_eq_2, q_awl_eq_5, q_awl_eq_6, q_awl_eq_7, q_AE_thenL_eq_1, q_AE_inBlockL_eq_1, q_putK_eq_1, q_vBin_eq_1, q_resV_eq_1, q_binV_eq_1, q_binInt_eq_3, q_cutInt_eq_1, q_cutInt_eq_8, q_partV_eq_2, q_vLoad_eq_2, q_appK_eq_1, q_appendK_eq_1, q_mapT_eq_1, q_mapT_eq_2, q_mapO_eq_1, q_delO_eq_1, q_delO_eq_2, q_V_scrub_eq_1, q_K_scrub_eq_1, q_K_scrub_eq_5, q_List_getD_cons_zero, true_and, if_true, and_self, Nat.reduceBEq, Nat.zero_add, Int.toNat_natCast, Nat.le_refl, Int.natCast_nonneg, q_learn_eq_1, q_condK_eq_1, q_condB_eq_1, decide_true, r_vIaddr_lst, r_srcV_lst, ints_len, List.length_map, lookT_here, lookT_next, lookO_here, uf78r3, uf78r4, uf78r5, uf78b6, uf78b7, uf78b8, uf78b9, uf78b10, uf78r11, uf78b12]
      refine ⟨by omega, by omega, Next.intro (i + 1, _) rfl rfl (by simp only []; omega) (by simp only []; omega)⟩
    · have c1 : ¬ (i : Int) < l.length := by omega
      obtain rfl : i = l.length := by omega
      rw [List.take_length]
      simp only [c1, q_wpLs_eq_1, q_wpLs_eq_2, q_wpL_eq_1, q_exL_eq_1, q_exL_eq_11, q_look_eq_1, q_insT_eq_1, q_awl_eq_2, q_awl_eq_5, q_awl_eq_6, q_awl_eq_9, q_awl_eq_10, q_AE_thenL_eq_1, q_AE_thenL_eq_2, q_AE_inBlockL_eq_2, q_putK_eq_1, q_vBin_eq_1, q_resV_eq_1, q_binV_eq_1, q_binInt_eq_3, q_cutInt_eq_8, q_isArrO_eq_1, q_mapT_eq_1, q_mapT_eq_2, q_mapO_eq_1, q_mapO_eq_2, q_endK_eq_2, q_endL_eq_1, q_endV_eq_1, q_resL_eq_1, q_resL_eq_2, q_resX_eq_1, q_one_eq_1, q_V_nrm_eq_1, q_K_nrm_eq_1, q_K_nrm_eq_3, q_O_nrm_eq_2, q_V_owns_eq_1, q_K_owns_eq_1, q_V_toNew_eq_1, q_K_toNew_eq_2, q_C_norm_eq_4, q_C_norm_eq_5, true_and, if_true, and_self, List.nodup_nil, List.nodup_cons, Nat.reduceBEq, q_learn_eq_1, not_false_eq_true, q_condK_eq_1, q_condB_eq_2, decide_false, norm_lst, normRows_ints, lookT_here, lookT_next, lookO_here, List.not_mem_nil, uf78r1, uf78b2, uf78b9, uf78b10, uf78r11, uf78b12]
      exact hS
end Go.Abs


set_option maxRecDepth 100000
set_option maxHeartbeats 4000000
namespace Go.Abs
open Go.Proofs
theorem Spec.of_awlP {P : Program} {f : FuncId} {n : Nat} {c : AQ} {rs : List RX} {args : List V} {X : V} (hc : cFunc P f = some ⟨n, c.erase, rs⟩) (hok : c.ok = true) (hlen : args.length ≤ n)
    (h : ∀ S : V → Prop, (∀ r, r.fz.nrm = X → S r) → awl P c (endK rs S) (initT 0 args) []) : Spec P f args (fun r => r = X) :=
  (Spec.of_awl hc hok hlen (h (fun r => r.fz.nrm = X) fun _ h => h)).plain.mono (by rintro r' ⟨r, h, rfl⟩; exact h)
theorem wt_args {t : Term} {k : Int} (h : WT t k) (h3 : 3 ≤ t.op) : t.op ≤ 13 ∧ (t.args.length : Int) = arity t.op ∧ (∀ a ∈ t.args, ∃ k', WT a k') ∧ ((t.op = 3 ∨ t.op = 6) → ∀ h : 0 < t.args.length, WT t.args[0] 1) := by
  cases h with
  | int => simp [Term.op] at h3
  | bool => simp [Term.op] at h3
  | var => simp [Term.op] at h3
  | not a wa => exact ⟨by simp [Term.op], by simp [Term.op, Term.args, arity], by simp only [Term.args, List.mem_singleton, forall_eq]; exact ⟨_, wa⟩, fun _ _ => wa⟩
  | andor o a b ho wa wb => exact ⟨by simp only [Term.op]; omega, by rcases ho with rfl | rfl <;> simp [Term.op, Term.args, arity], by simp only [Term.args, List.mem_cons, List.not_mem_nil, or_false, forall_eq_or_imp, forall_eq]; exact ⟨⟨_, wa⟩, ⟨_, wb⟩⟩, fun h => by simp only [Term.op] at h; omega⟩
  | ite a b c k wa wb wc => exact ⟨by simp [Term.op], by simp [Term.op, Term.args, arity], by simp only [Term.args, List.mem_cons, List.not_mem_nil, or_false, forall_eq_or_imp, forall_eq]; exact ⟨⟨_, wa⟩, ⟨_, wb⟩, ⟨_, wc⟩⟩, fun _ _ => wa⟩
  | less a b wa wb => exact ⟨by simp [Term.op], by simp [Term.op, Term.args, arity], by simp only [Term.args, List.mem_cons, List.not_mem_nil, or_false, forall_eq_or_imp, forall_eq]; exact ⟨⟨_, wa⟩, ⟨_, wb⟩⟩, fun h => by simp [Term.op] at h⟩
  | eq a b k wa wb => exact ⟨by simp [Term.op], by simp [Term.op, Term.args, arity], by simp only [Term.args, List.mem_cons, List.not_mem_nil, or_false, forall_eq_or_imp, forall_eq]; exact ⟨⟨_, wa⟩, ⟨_, wb⟩⟩, fun h => by simp [Term.op] at h⟩
  | ar o a b h9 h13 wa wb => exact ⟨h13, by have e : arity o = 2 := by { unfold arity; rw [if_neg (by omega), if_neg (by omega), if_neg (by omega)] }
                                            simp [Term.op, Term.args, e], by simp only [Term.args, List.mem_cons, List.not_mem_nil, or_false, forall_eq_or_imp, forall_eq]; exact ⟨⟨_, wa⟩, ⟨_, wb⟩⟩, fun h => by simp only [Term.op] at h; omega⟩
theorem wt_low {t : Term} {k : Int} (h : WT t k) : 0 ≤ t.op ∧ (t.op = 2 → 0 ≤ t.n ∧ t.n < 20) := by
  cases h <;> simp only [Term.op, Term.n] <;> refine ⟨by omega, fun h => by omega⟩
theorem vr_in {k : Int} {c : Cell} (h : VR k c) : inN c.n := by
  unfold VR at h
  split at h
  · exact h.1
  · rw [h]; simp [inN]
def part {α : Type} (f : α → List C) (z : List C) (l : List α) (i : Nat) : List (List C) := (l.take i).map f ++ List.replicate (l.length - i) z
theorem part_set {α : Type} (f : α → List C) (z : List C) (l : List α) {i : Nat} (h : i < l.length) : (part f z l i).set i (f l[i]) = part f z l (i + 1) := by
  obtain ⟨m, hm⟩ : ∃ m, l.length - i = m + 1 := ⟨l.length - i - 1, by omega⟩
  have hm2 : l.length - (i + 1) = m := by omega
  have hl : ((l.take i).map f).length = i := by simp; omega
  unfold part
  rw [hm, hm2, List.replicate_succ, List.set_append_right _ _ (by omega), hl, Nat.sub_self, List.set_cons_zero, List.take_add_one, List.getElem?_eq_getElem h, List.map_append]
  simp only [Option.toList_some, List.map_cons, List.map_nil, List.append_assoc, List.cons_append, List.nil_append]
theorem part_len {α : Type} (f : α → List C) (z : List C) (l : List α) (i : Nat) (h : i ≤ l.length) : (part f z l i).length = l.length := by simp [part]; omega
theorem part_all {α : Type} (f : α → List C) (z : List C) (l : List α) : part f z l l.length = l.map f := by simp [part]
theorem part_0 {α : Type} (f : α → List C) (z : List C) (l : List α) : part f z l 0 = List.replicate l.length z := by simp [part]
def evR (cells : List Cell) (a : Term) : List C := encCell (eval a cells)
def rnR (cells : List Cell) (a : Term) : List C := encL (runN a cells)
theorem map_evR (cells : List Cell) (l : List Term) : l.map (evR cells) = (l.map fun a => eval a cells).map encCell := by simp [evR]
theorem map_rnR (cells : List Cell) (l : List Term) : l.map (rnR cells) = (l.map fun a => runN a cells).map encL := by simp [rnR]
theorem szL_mem : ∀ {l : List Term} {x : Term}, x ∈ l → szT x ≤ szL l
  | a :: l, x, h => by
    rw [szL]
    rcases List.mem_cons.1 h with rfl | h
    · omega
    · have := szL_mem h; omega
theorem flat_sz (cells : List Cell) : ∀ (l : List Term), (∀ x ∈ l, (runN x cells).length ≤ szT x) → (l.map fun a => runN a cells).flatten.length ≤ szL l
  | [], _ => by simp
  | a :: l, h => by
    have h1 := h a (by simp)
    have h2 := flat_sz cells l fun x hx => h x (by simp [hx])
    rw [List.map_cons, List.flatten_cons, List.length_append, szL]; omega
theorem rn_len (cells : List Cell) : ∀ (t : Term), (runN t cells).length ≤ szT t := by
  have main : ∀ t : Term, (∀ x ∈ t.args, (runN x cells).length ≤ szT x) → (runN t cells).length ≤ szT t := by
    intro t ih
    have hf := flat_sz cells t.args ih
    rw [runN_eq, szT_eq]
    split
    · simp
    · split
      · split <;> simp <;> omega
      · split
        · rw [List.getD_eq_getElem?_getD, List.getElem?_map]
          cases he : t.args[(2 - ((t.args.map fun a => eval a cells).getD 0 ⟨false, 0⟩).n).toNat]? with
          | none => simp
          | some x =>
            have hm := List.mem_of_getElem? he
            have := ih x hm
            have := szL_mem hm
            simp only [Option.map_some, Option.getD_some]; omega
        · split
          · simp
          · omega
  exact Term.ind fun o n a ih => main _ ih
def runV (t : Term) (cells : List Cell) : V := .tup [.agg (encCell (eval t cells)), .k (.c (lstC 1 (ints (runN t cells))))]
theorem fin_run {S : V → Prop} {X : V} (h : ∀ r, r.fz.nrm = X → S r) {k : Bool} {n : Int} {v : V} {c : Cell} {l : List Int} (hX : X = .tup [.agg (encCell c), .k (.c (lstC 1 (ints l)))]) (e1 : Cell.mk k n = c) (e2 : v.fz.nrm = .k (.c (lstC 1 (ints l)))) : S (.tup [.agg [.bool k, .int .i64 n], v]) := by
  refine h _ ?_
  subst e1
  simp only [V.fz, V.fzL, V.nrm, V.nrmL, e2, hX, C.normRow, norm_bool, norm_int, encCell]
theorem s64 : ∀ (t : Term) (k : Int), WT t k → szT t ≤ 1000000 → ∀ cells : List Cell, Spec Try.prog 64 [.agg [lstC 2 (cells.map encCell)], .agg (encT t)] (fun r => r = runV t cells) := by
  have main : ∀ t : Term, (∀ x ∈ t.args, ∀ (k : Int), WT x k → szT x ≤ 1000000 → ∀ cells : List Cell, Spec Try.prog 64 [.agg [lstC 2 (cells.map encCell)], .agg (encT x)] (fun r => r = runV x cells)) →
      ∀ (k : Int), WT t k → szT t ≤ 1000000 → ∀ cells : List Cell, Spec Try.prog 64 [.agg [lstC 2 (cells.map encCell)], .agg (encT t)] (fun r => r = runV t cells) := by
    intro t ih k hw hsz cells
    obtain ⟨w1, w2⟩ := wt_low hw
    refine Spec.of_awlP hf64 okf64 (by simp) fun S hS => ?_
    by_cases h0 : t.op = 0
    · simp only [encT_eq, h0, q_wpLs_eq_1, q_wpLs_eq_2, q_wpL_eq_1, q_exL_eq_1, q_exL_eq_2, q_exL_eq_4, q_exL_eq_5, q_exL_eq_6, q_exL_eq_8, q_exL_eq_9, q_exL_eq_11, q_exL_eq_21, q_look_eq_1, q_look_eq_2, q_insT_eq_1, q_insO_eq_1, q_awl_eq_1, q_awl_eq_2, q_awl_eq_5, q_awl_eq_6, q_awl_eq_7, q_awl_eq_10, q_AE_thenL_eq_1, q_AE_thenL_eq_3, q_AE_inBlockL_eq_3, q_initT_eq_1, q_initT_eq_2, q_putK_eq_1, q_vBin_eq_1, q_resV_eq_1, q_binV_eq_1, q_binInt_eq_3, q_cutInt_eq_6, q_vFaddr_eq_1, q_loadO_eq_1, q_isV_eq_1, q_vLoad_eq_1, q_vBuild_eq_1, q_vBuild_eq_2, q_rowV_eq_1, q_ofRow_eq_1, q_ofRow_eq_2, q_pureRow_eq_1, q_pureRow_eq_2, q_V_cells_eq_1, q_V_cells_eq_2, q_splice_eq_1, q_isVarO_eq_1, q_isArrO_eq_1, q_boxK_eq_1, q_stVarK_eq_1, q_storeK_eq_1, q_mapT_eq_1, q_mapT_eq_2, q_mapO_eq_1, q_mapO_eq_2, q_freeB_eq_1, q_freeT_eq_1, q_freeT_eq_2, q_freeO_eq_1, q_freeO_eq_2, q_V_noRef_eq_1, q_V_noRef_eq_2, q_K_noRef_eq_1, q_K_noRef_eq_2, q_K_noRef_eq_3, q_O_noRef_eq_1, q_O_noRef_eq_2, q_endK_eq_2, q_endL_eq_1, q_endV_eq_1, q_resL_eq_1, q_resL_eq_2, q_resX_eq_1, q_resX_eq_2, q_resCell_eq_1, q_one_eq_2, q_V_nrm_eq_1, q_V_nrm_eq_2, q_K_nrm_eq_1, q_K_nrm_eq_3, q_O_nrm_eq_1, q_O_nrm_eq_2, q_V_owns_eq_1, q_V_owns_eq_3, q_V_owns_eq_4, q_K_owns_eq_1, q_V_ownsL_eq_1, q_V_ownsL_eq_2, q_V_toNew_eq_1, q_V_toNew_eq_2, q_V_toNew_eq_4, q_K_toNew_eq_2, q_V_toNewL_eq_1, q_V_toNewL_eq_2, q_C_norm_eq_4, q_C_norm_eq_5, q_C_normRow_eq_1, q_C_normRow_eq_2, q_C_normRows_eq_1, q_Option_map_some, q_List_map_cons, q_List_map_nil, q_List_take_succ_cons, q_List_take_zero, q_List_drop_succ_cons, q_List_drop_zero, q_List_nil_append, q_List_cons_append, q_List_length_cons, q_List_length_nil, q_List_all_cons, q_List_all_nil, true_and, if_true, if_false, Bool.false_eq_true, and_self, bne_iff_ne, ne_eq, Bool.and_eq_true, Bool.and_true, Bool.true_and, Bool.or_true, Bool.true_or, Bool.false_or, BEq.rfl, List.append_nil, List.nodup_nil, List.nodup_cons, Nat.reduceAdd, Nat.reduceEqDiff, Nat.reduceLeDiff, Nat.reduceLT, Nat.reduceBEq, Nat.zero_add, Nat.add_zero, Nat.le_refl, q_learn_eq_1, not_false_eq_true, q_condK_eq_1, q_condB_eq_1, norm_lst, normRows_T, normRows_Ce, lookT_here, lookT_next, lookO_here, lookO_next, List.not_mem_nil, uf64, uf64r38, uf64b39, uf64b53, uf64r54, uf64b55, uf64r56, uf64b57, uf64b58, uf64b59, uf64r60, uf64b61, uf64b62, uf64r63, uf64b64]
      exact fin_run hS rfl (by rw [eval_eq]; simp [h0]) (by rw [runN_eq]; simp only [h0]; rfl)
    by_cases h1 : t.op = 1
    · simp only [encT_eq, h1, q_wpLs_eq_1, q_wpLs_eq_2, q_wpL_eq_1, q_exL_eq_1, q_exL_eq_2, q_exL_eq_4, q_exL_eq_5, q_exL_eq_6, q_exL_eq_8, q_exL_eq_9, q_exL_eq_11, q_exL_eq_21, q_look_eq_1, q_look_eq_2, q_insT_eq_1, q_insO_eq_1, q_awl_eq_2, q_awl_eq_5, q_awl_eq_6, q_awl_eq_7, q_awl_eq_10, q_AE_thenL_eq_1, q_AE_thenL_eq_3, q_AE_inBlockL_eq_3, q_initT_eq_1, q_initT_eq_2, q_putK_eq_1, q_vBin_eq_1, q_resV_eq_1, q_binV_eq_1, q_binInt_eq_3, q_cutInt_eq_6, q_vFaddr_eq_1, q_loadO_eq_1, q_isV_eq_1, q_vLoad_eq_1, q_vBuild_eq_1, q_vBuild_eq_2, q_rowV_eq_1, q_ofRow_eq_1, q_ofRow_eq_2, q_pureRow_eq_1, q_pureRow_eq_2, q_V_cells_eq_1, q_V_cells_eq_2, q_splice_eq_1, q_isVarO_eq_1, q_isArrO_eq_1, q_boxK_eq_1, q_stVarK_eq_1, q_storeK_eq_1, q_mapT_eq_1, q_mapT_eq_2, q_mapO_eq_1, q_mapO_eq_2, q_freeB_eq_1, q_freeT_eq_1, q_freeT_eq_2, q_freeO_eq_1, q_freeO_eq_2, q_V_noRef_eq_1, q_V_noRef_eq_2, q_K_noRef_eq_1, q_K_noRef_eq_2, q_K_noRef_eq_3, q_O_noRef_eq_1, q_O_noRef_eq_2, q_endK_eq_2, q_endL_eq_1, q_endV_eq_1, q_resL_eq_1, q_resL_eq_2, q_resX_eq_1, q_resX_eq_2, q_resCell_eq_1, q_one_eq_2, q_V_nrm_eq_1, q_V_nrm_eq_2, q_K_nrm_eq_1, q_K_nrm_eq_3, q_O_nrm_eq_1, q_O_nrm_eq_2, q_V_owns_eq_1, q_V_owns_eq_3, q_V_owns_eq_4, q_K_owns_eq_1, q_V_ownsL_eq_1, q_V_ownsL_eq_2, q_V_toNew_eq_1, q_V_toNew_eq_2, q_V_toNew_eq_4, q_K_toNew_eq_2, q_V_toNewL_eq_1, q_V_toNewL_eq_2, q_C_norm_eq_4, q_C_norm_eq_5, q_C_normRow_eq_1, q_C_normRow_eq_2, q_C_normRows_eq_1, q_Option_map_some, q_List_map_cons, q_List_map_nil, q_List_take_succ_cons, q_List_take_zero, q_List_drop_succ_cons, q_List_drop_zero, q_List_nil_append, q_List_cons_append, q_List_length_cons, q_List_length_nil, q_List_all_cons, q_List_all_nil, true_and, if_true, if_false, Bool.false_eq_true, and_self, bne_iff_ne, ne_eq, Bool.and_eq_true, Bool.and_true, Bool.true_and, Bool.or_true, Bool.true_or, Bool.false_or, BEq.rfl, List.append_nil, List.nodup_nil, List.nodup_cons, Nat.reduceAdd, Nat.reduceEqDiff, Nat.reduceLeDiff, Nat.reduceLT, Nat.reduceBEq, Nat.zero_add, Nat.add_zero, Nat.le_refl, q_learn_eq_1, not_false_eq_true, q_condK_eq_1, q_condB_eq_1, q_condB_eq_2, norm_lst, normRows_T, normRows_Ce, lookT_here, lookT_next, Int.reduceBEq, lookO_here, lookO_next, List.not_mem_nil, uf64, uf64r38, uf64b39, uf64b53, uf64r54, uf64b55, uf64r56, uf64b57, uf64b58, uf64b59, uf64r60, uf64b61, uf64b62, uf64r63, uf64b64]
      exact fin_run hS rfl (by rw [eval_eq]; simp [h1]) (by rw [runN_eq]; simp only [h1]; rfl)
    by_cases h2 : t.op = 2
    · obtain ⟨n0, n20⟩ := w2 h2
      have ee : eval t cells = valueC t.n cells := by rw [eval_eq]; simp [h2]
      have er : runN t cells = if (valueC t.n cells).known = true then [] else [t.n] := by rw [runN_eq]; simp only [h2]; rfl
      simp only [encT_eq, h2, q_wpLs_eq_1, q_wpLs_eq_2, q_wpL_eq_1, q_exL_eq_1, q_exL_eq_2, q_exL_eq_4, q_exL_eq_5, q_exL_eq_8, q_exL_eq_11, q_exL_eq_21, q_exL_eq_28, q_look_eq_1, q_look_eq_2, q_insT_eq_1, q_insO_eq_1, q_awl_eq_2, q_awl_eq_5, q_awl_eq_6, q_awl_eq_7, q_AE_thenL_eq_1, q_initT_eq_1, q_initT_eq_2, q_putK_eq_1, q_vBin_eq_1, q_resV_eq_1, q_binV_eq_1, q_binInt_eq_3, q_cutInt_eq_6, q_vFaddr_eq_1, q_loadO_eq_1, q_isV_eq_1, q_vLoad_eq_1, q_ofRow_eq_1, q_pureRow_eq_1, q_pureRow_eq_2, q_isVarO_eq_1, q_boxK_eq_1, q_freeB_eq_1, q_freeT_eq_1, q_freeT_eq_2, q_freeO_eq_1, q_freeO_eq_2, q_V_noRef_eq_1, q_V_noRef_eq_2, q_K_noRef_eq_1, q_K_noRef_eq_3, q_O_noRef_eq_1, q_Option_map_some, q_List_map_cons, q_List_map_nil, q_List_take_succ_cons, q_List_take_zero, q_List_drop_succ_cons, q_List_drop_zero, q_List_length_cons, q_List_length_nil, q_List_all_cons, q_List_all_nil, true_and, if_true, if_false, Bool.false_eq_true, and_self, bne_iff_ne, ne_eq, Bool.and_eq_true, Bool.and_true, Bool.or_true, Bool.false_or, BEq.rfl, Nat.reduceAdd, Nat.reduceEqDiff, Nat.reduceLeDiff, Nat.reduceBEq, Nat.zero_add, Nat.add_zero, Nat.le_refl, q_learn_eq_1, not_false_eq_true, q_condK_eq_1, q_condB_eq_1, q_condB_eq_2, lookT_here, lookT_next, Int.reduceBEq, lookO_here, lookO_next, uf64, uf64r47, uf64b48, uf64b49, uf64b50, uf64r51, uf64b52, uf64b53, uf64r54, uf64b55, uf64r56, uf64b57, uf64b58, uf64b59, uf64r60, uf64b61, uf64b62, uf64r63, uf64b64]
      refine call_r (s76 t.n cells n0 n20) ?_ (ha := by simp [lendL, lendO, lookO, V.norm, norm_list, lst, machV])
      obtain ⟨vk, vn, hv⟩ : ∃ k n, valueC t.n cells = Cell.mk k n := ⟨_, _, rfl⟩
      have hvr := VR.value (cells := cells) n0 n20
      rw [hv] at ee er hvr ⊢
      cases vk
      · simp only [encCV, encCell, q_wpLs_eq_1, q_wpLs_eq_2, q_wpLT_eq_1, q_wpLT_eq_3, q_wpLT_eq_4, q_wpLT_eq_5, q_wpL_eq_1, q_wpLQ_eq_1, q_exL_eq_4, q_exL_eq_8, q_exL_eq_9, q_exL_eq_21, q_exLQ_eq_1, q_exLQ_eq_6, q_exLQ_eq_8, q_exLQ_eq_9, q_exLQ_eq_10, q_exLQ_eq_22, q_look_eq_1, q_lookO_eq_1, q_insT_eq_1, q_insO_eq_1, q_awl_eq_1, q_awl_eq_2, q_awl_eq_4, q_awl_eq_5, q_awl_eq_6, q_awl_eq_10, q_awl_eq_11, q_AE_thenL_eq_1, q_AE_thenL_eq_3, q_AE_inBlockL_eq_3, q_keepT_eq_1, q_keepT_eq_2, q_keepO_eq_1, q_keepO_eq_2, q_addO_eq_1, q_addO_eq_2, q_putK_eq_1, q_vFaddr_eq_1, q_loadO_eq_1, q_isV_eq_1, q_vLoad_eq_1, q_vBuild_eq_1, q_rowV_eq_1, q_ofRow_eq_1, q_ofRow_eq_2, q_pureRow_eq_1, q_pureRow_eq_2, q_V_cells_eq_2, q_splice_eq_1, q_isVarO_eq_1, q_vRow_eq_1, q_vLits_eq_1, q_vLits_eq_2, q_bsQ_eq_1, q_stVarK_eq_1, q_storeK_eq_1, q_mapT_eq_1, q_mapT_eq_2, q_mapO_eq_1, q_mapO_eq_2, q_freeB_eq_1, q_freeT_eq_1, q_freeT_eq_2, q_freeO_eq_1, q_freeO_eq_2, q_V_noRef_eq_1, q_V_noRef_eq_2, q_K_noRef_eq_1, q_K_noRef_eq_2, q_K_noRef_eq_3, q_O_noRef_eq_1, q_O_noRef_eq_2, q_endK_eq_2, q_endL_eq_1, q_endV_eq_1, q_resL_eq_1, q_resL_eq_2, q_resX_eq_1, q_resX_eq_2, q_resCell_eq_1, q_one_eq_2, q_V_nrm_eq_1, q_K_nrm_eq_1, q_K_nrm_eq_3, q_O_nrm_eq_1, q_O_nrm_eq_2, q_V_owns_eq_1, q_V_owns_eq_3, q_V_owns_eq_4, q_K_owns_eq_2, q_V_ownsL_eq_1, q_V_ownsL_eq_2, q_V_toNew_eq_1, q_V_toNew_eq_2, q_V_toNew_eq_4, q_K_toNew_eq_1, q_V_toNewL_eq_1, q_V_toNewL_eq_2, q_C_norm_eq_1, q_C_norm_eq_4, q_C_norm_eq_5, q_C_normRow_eq_1, q_C_normRow_eq_2, q_C_normRows_eq_1, q_C_normRows_eq_2, q_regN_eq_2, q_V_reg_eq_4, q_freesL_eq_1, q_addsL_eq_1, q_regK_eq_1, q_retK_eq_2, q_Option_map_some, q_List_map_cons, q_List_map_nil, q_List_take_succ_cons, q_List_take_zero, q_List_drop_succ_cons, q_List_drop_zero, q_List_nil_append, q_List_foldl_cons, q_List_foldl_nil, q_List_replicate_succ, q_List_replicate_zero, q_List_set_cons_zero, q_List_length_cons, q_List_length_nil, q_List_all_cons, q_List_all_nil, q_List_isEmpty_cons, true_and, and_true, if_true, if_false, Bool.false_eq_true, forall_eq, or_false, and_self, bne_iff_ne, ne_eq, Bool.and_eq_true, Bool.and_true, Bool.true_and, Bool.or_true, Bool.false_or, List.append_nil, List.mem_cons, List.nodup_nil, Nat.reduceAdd, Nat.reduceMul, Nat.reduceEqDiff, Nat.reduceLeDiff, Nat.reduceLT, Nat.reduceBEq, Nat.zero_add, Nat.add_zero, Nat.le_refl, q_learn_eq_1, not_false_eq_true, q_condK_eq_1, q_condB_eq_2, lookT_here, lookT_next, lookO_here, lookO_next, List.not_mem_nil, uf64r40o0, uf64r40o1, uf64r40o2, uf64r40o3, uf64r40o4, uf64r40o5, utf64r40, uf64b41, uf64b44, uf64r45, uf64b46]
        exact fin_run hS rfl (by rw [ee]; have : vn = 0 := (by simpa [VR] using hvr); rw [this]) (by rw [er]; simp [V.fz, Abs.K.fz, V.nrm, Abs.K.nrm, norm_list, ints])
      · simp only [encCV, encCell, q_wpLs_eq_1, q_wpLs_eq_2, q_wpL_eq_1, q_exL_eq_2, q_exL_eq_4, q_exL_eq_8, q_exL_eq_9, q_exL_eq_21, q_look_eq_1, q_insT_eq_1, q_insO_eq_1, q_awl_eq_2, q_awl_eq_5, q_awl_eq_6, q_awl_eq_10, q_AE_thenL_eq_1, q_AE_thenL_eq_3, q_AE_inBlockL_eq_3, q_putK_eq_1, q_vFaddr_eq_1, q_loadO_eq_1, q_isV_eq_1, q_vLoad_eq_1, q_ofRow_eq_1, q_ofRow_eq_2, q_pureRow_eq_1, q_pureRow_eq_2, q_V_cells_eq_2, q_splice_eq_1, q_isVarO_eq_1, q_isArrO_eq_1, q_stVarK_eq_1, q_storeK_eq_1, q_mapT_eq_1, q_mapT_eq_2, q_mapO_eq_1, q_mapO_eq_2, q_freeB_eq_1, q_freeT_eq_1, q_freeT_eq_2, q_freeO_eq_1, q_freeO_eq_2, q_V_noRef_eq_1, q_V_noRef_eq_2, q_K_noRef_eq_1, q_K_noRef_eq_2, q_K_noRef_eq_3, q_O_noRef_eq_1, q_O_noRef_eq_2, q_endK_eq_2, q_endL_eq_1, q_endV_eq_1, q_resL_eq_1, q_resL_eq_2, q_resX_eq_1, q_resX_eq_2, q_resCell_eq_1, q_one_eq_2, q_V_nrm_eq_1, q_V_nrm_eq_2, q_K_nrm_eq_1, q_K_nrm_eq_3, q_O_nrm_eq_1, q_O_nrm_eq_2, q_V_owns_eq_1, q_V_owns_eq_3, q_V_owns_eq_4, q_K_owns_eq_1, q_V_ownsL_eq_1, q_V_ownsL_eq_2, q_V_toNew_eq_1, q_V_toNew_eq_2, q_V_toNew_eq_4, q_K_toNew_eq_2, q_V_toNewL_eq_1, q_V_toNewL_eq_2, q_C_norm_eq_4, q_C_norm_eq_5, q_C_normRow_eq_1, q_C_normRow_eq_2, q_C_normRows_eq_1, q_regN_eq_2, q_V_reg_eq_4, q_freesL_eq_1, q_addsL_eq_1, q_regK_eq_1, q_retK_eq_2, q_Option_map_some, q_List_map_cons, q_List_map_nil, q_List_take_succ_cons, q_List_take_zero, q_List_drop_succ_cons, q_List_drop_zero, q_List_nil_append, q_List_length_cons, q_List_length_nil, q_List_all_cons, q_List_all_nil, true_and, if_true, if_false, Bool.false_eq_true, and_self, bne_iff_ne, ne_eq, Bool.and_eq_true, Bool.and_true, Bool.true_and, Bool.or_true, Bool.true_or, Bool.false_or, BEq.rfl, List.append_nil, List.nodup_nil, List.nodup_cons, Nat.reduceAdd, Nat.reduceMul, Nat.reduceEqDiff, Nat.reduceLeDiff, Nat.reduceLT, Nat.reduceBEq, Nat.succ_ne_self, Nat.zero_add, Nat.add_zero, Nat.le_refl, q_learn_eq_1, not_false_eq_true, q_condK_eq_1, q_condB_eq_1, norm_lst, normRows_T, normRows_Ce, lookT_here, lookT_next, lookO_here, lookO_next, List.not_mem_nil, uf64r42, uf64b43, uf64b44, uf64r45, uf64b46]
        exact fin_run hS rfl (by rw [ee]) (by rw [er]; rfl)
    have h3 : 3 ≤ t.op := by omega
    obtain ⟨g13, gar, gwt, gfirst⟩ := wt_args hw h3
    have hl3 : t.args.length ≤ 3 := by have : arity t.op ≤ 3 := by { unfold arity; (repeat' split) <;> omega }; omega
    simp only [encT_eq, h0, h1, h2, q_wpLs_eq_1, q_wpLs_eq_2, q_wpL_eq_1, q_exL_eq_1, q_exL_eq_2, q_exL_eq_4, q_exL_eq_5, q_exL_eq_6, q_exL_eq_8, q_exL_eq_9, q_exL_eq_11, q_exL_eq_18, q_exL_eq_21, q_exL_eq_28, q_exL_eq_30, q_look_eq_1, q_look_eq_2, q_insT_eq_1, q_insO_eq_1, q_awl_eq_1, q_awl_eq_2, q_awl_eq_5, q_awl_eq_6, q_awl_eq_7, q_awl_eq_10, q_AE_thenL_eq_1, q_AE_thenL_eq_3, q_AE_inBlockL_eq_1, q_AE_inBlockL_eq_3, q_initT_eq_1, q_initT_eq_2, q_putK_eq_1, q_vBin_eq_1, q_resV_eq_1, q_binV_eq_1, q_binInt_eq_3, q_cutInt_eq_6, q_vFaddr_eq_1, q_loadO_eq_1, q_isV_eq_1, q_vLoad_eq_1, q_vBuild_eq_1, q_vBuild_eq_2, q_rowV_eq_1, q_ofRow_eq_1, q_ofRow_eq_2, q_pureRow_eq_1, q_pureRow_eq_2, q_V_cells_eq_1, q_V_cells_eq_2, q_splice_eq_1, q_isVarO_eq_1, q_isArrO_eq_1, q_boxK_eq_1, q_stVarK_eq_1, q_storeK_eq_1, q_mkslK_eq_1, q_mapT_eq_1, q_mapT_eq_2, q_mapO_eq_1, q_mapO_eq_2, q_freeB_eq_1, q_freeT_eq_1, q_freeT_eq_2, q_freeO_eq_1, q_freeO_eq_2, q_V_noRef_eq_1, q_V_noRef_eq_2, q_K_noRef_eq_1, q_K_noRef_eq_2, q_K_noRef_eq_3, q_O_noRef_eq_1, q_O_noRef_eq_2, q_endK_eq_2, q_endL_eq_1, q_endV_eq_1, q_resL_eq_1, q_resL_eq_2, q_resX_eq_1, q_resX_eq_2, q_resCell_eq_1, q_one_eq_2, q_V_nrm_eq_1, q_V_nrm_eq_2, q_K_nrm_eq_1, q_K_nrm_eq_3, q_O_nrm_eq_1, q_O_nrm_eq_2, q_V_owns_eq_1, q_V_owns_eq_3, q_V_owns_eq_4, q_K_owns_eq_1, q_V_ownsL_eq_1, q_V_ownsL_eq_2, q_V_toNew_eq_1, q_V_toNew_eq_2, q_V_toNew_eq_4, q_K_toNew_eq_2, q_V_toNewL_eq_1, q_V_toNewL_eq_2, q_C_norm_eq_4, q_C_norm_eq_5, q_C_normRow_eq_1, q_C_normRow_eq_2, q_C_normRows_eq_1, q_Option_map_some, q_List_map_cons, q_List_map_nil, q_List_take_succ_cons, q_List_take_zero, q_List_drop_succ_cons, q_List_drop_zero, q_List_nil_append, q_List_cons_append, q_List_length_cons, q_List_length_nil, q_List_all_cons, q_List_all_nil, true_and, if_true, if_false, Bool.false_eq_true, false_implies, forall_const, and_self, bne_iff_ne, ne_eq, Bool.and_eq_true, Bool.and_true, Bool.true_and, Bool.or_true, Bool.true_or, Bool.false_or, BEq.rfl, List.append_nil, List.nodup_nil, List.nodup_cons, Nat.reduceAdd, Nat.reduceEqDiff, Nat.reduceLeDiff, Nat.reduceLT, Nat.reduceBEq, Nat.zero_add, Nat.add_zero, Int.toNat_natCast, Nat.le_refl, Int.natCast_nonneg, q_learn_eq_1, not_false_eq_true, q_condK_eq_1, q_condB_eq_1, condB_beq, r_vLen_lst, norm_lst, normRows_T, normRows_Ce, List.length_map, lookT_here, lookT_next, Int.cast_ofNat_Int, lookO_here, lookO_next, List.not_mem_nil, uf64, uf64b30, uf64r31, uf64b32, uf64b33, uf64r34, uf64b35, uf64r36, uf64b37, uf64r38, uf64b39, uf64r47, uf64b48, uf64b49, uf64b50, uf64r51, uf64b52, uf64b53, uf64r54, uf64b55, uf64r56, uf64b57, uf64b58, uf64b59, uf64r60, uf64b61, uf64b62, uf64r63, uf64b64]
    refine ⟨by omega, by omega, by omega, by omega, by omega, by omega, ?_⟩
    rw [uf64l29]
    refine awl_loop (fun i : Nat => [(2, .k (.ptr 2 0)), (3, .k (.ptr 3 0)), (4, .k (.ptr 4 0)), (7, .k (.own 37)), (8, .k (.own 41)), (43, lst 3 (t.args.map encT)), (44, .int .i64 t.args.length), (45, .int .i64 i)])
      (fun i => [(2, .var 83 [.c (lstC 2 (cells.map encCell))]), (3, .var 41 [.c (.int .i64 t.op), .c (.int .i64 t.n), .c (lstC 3 (t.args.map encT))]), (4, .var 53 [.c (.bool false), .c (.int .i64 0)]),
        (37, .arr 53 2 (some false) (part (evR cells) [.bool false, .int .i64 0] t.args i)), (41, .arr 36 1 (some false) (part (rnR cells) [.list 0 (some true) []] t.args i))])
      (fun i => i ≤ t.args.length) (fun i => t.args.length - i) 0 rfl (by rw [part_0, part_0]; rfl) (Nat.zero_le _) ?_
    intro i hi
    by_cases hlt : i < t.args.length
    · have c1 : (i : Int) < t.args.length := by omega
      have c4 : IntKind.i64.wrap ((i : Int) + 1) = (i : Int) + 1 := wrap_in (by omega) (by omega)
      obtain ⟨k', hk'⟩ := gwt t.args[i] (List.getElem_mem hlt)
      have hszi : szT t.args[i] ≤ 1000000 := by { have := szL_mem (List.getElem_mem hlt); rw [szT_eq] at hsz; omega }
      simp only [c1, c4, map_at hlt, encT_len, q_wpLs_eq_1, q_wpLs_eq_2, q_wpL_eq_1, q_exL_eq_1, q_exL_eq_4, q_exL_eq_8, q_exL_eq_9, q_exL_eq_11, q_exL_eq_23, q_exL_eq_28, q_look_eq_1, q_insT_eq_1, q_insO_eq_1, q_awl_eq_1, q_awl_eq_2, q_awl_eq_5, q_awl_eq_6, q_awl_eq_7, q_AE_thenL_eq_1, q_AE_inBlockL_eq_1, q_putK_eq_1, q_vBin_eq_1, q_resV_eq_1, q_binV_eq_1, q_binInt_eq_3, q_cutInt_eq_8, q_partV_eq_1, q_loadO_eq_1, q_isV_eq_1, q_vLoad_eq_1, q_vLoad_eq_2, q_ofRow_eq_1, q_pureRow_eq_1, q_pureRow_eq_2, q_V_cells_eq_2, q_splice_eq_1, q_stVarK_eq_1, q_storeK_eq_1, q_freeB_eq_1, q_freeT_eq_1, q_freeT_eq_2, q_freeO_eq_1, q_freeO_eq_2, q_V_noRef_eq_1, q_V_noRef_eq_2, q_K_noRef_eq_1, q_K_noRef_eq_2, q_K_noRef_eq_3, q_K_noRef_eq_5, q_O_noRef_eq_1, q_O_noRef_eq_2, q_Option_map_some, q_List_map_cons, q_List_map_nil, q_List_take_succ_cons, q_List_take_zero, q_List_drop_succ_cons, q_List_drop_zero, q_List_nil_append, q_List_length_cons, q_List_length_nil, q_List_all_cons, q_List_all_nil, true_and, if_true, and_self, bne_iff_ne, ne_eq, Bool.and_eq_true, Bool.and_true, Bool.true_and, Bool.or_true, Bool.false_or, List.append_nil, Nat.reduceAdd, Nat.reduceEqDiff, Nat.reduceBEq, Nat.zero_add, Int.toNat_natCast, Nat.le_refl, Int.natCast_nonneg, q_learn_eq_1, not_false_eq_true, q_condK_eq_1, q_condB_eq_1, decide_true, r_vIaddr_lst, List.length_map, r_ofRow_take, encT_len, lookT_here, lookT_next, lookO_here, lookO_next, uf64r19, uf64r20, uf64r21, uf64b22, uf64b23, uf64b24, uf64b25, uf64b26, uf64r27, uf64b28]
      refine call_r (ih t.args[i] (List.getElem_mem hlt) k' hk' hszi cells) ?_
      have p1 := part_len (evR cells) [.bool false, .int .i64 0] t.args i hi
      have p2 := part_len (rnR cells) [.list 0 (some true) []] t.args i hi
      simp only [runV, c1, c4, p1, p2, encCell_len, q_wpLs_eq_1, q_wpLs_eq_2, q_wpL_eq_1, q_exL_eq_1, q_exL_eq_9, q_exL_eq_11, q_exL_eq_23, q_exL_eq_27, q_look_eq_1, q_look_eq_2, q_insT_eq_1, q_insO_eq_1, q_awl_eq_2, q_AE_thenL_eq_1, q_putK_eq_1, q_vBin_eq_1, q_resV_eq_1, q_binV_eq_1, q_binInt_eq_3, q_cutInt_eq_1, q_vExtr_eq_1, q_vIaddr_eq_2, q_idxO_eq_1, q_splice_eq_1, q_vRow_eq_1, q_vRow_eq_2, q_stArrK_eq_1, q_storeK_eq_2, q_regN_eq_2, q_V_reg_eq_3, q_V_reg_eq_4, q_V_regL_eq_1, q_V_regL_eq_2, q_freesL_eq_1, q_addsL_eq_1, q_regK_eq_1, q_retK_eq_2, q_List_take_zero, q_List_nil_append, q_List_cons_append, q_List_length_cons, q_List_length_nil, q_List_getElemQ_cons_zero, q_List_getElemQ_cons_succ, true_and, if_true, and_self, List.append_nil, Nat.reduceAdd, Nat.reduceMul, Nat.reduceBEq, Nat.zero_add, Nat.add_zero, Int.toNat_natCast, Nat.le_refl, Int.natCast_nonneg, encCell_len, lookT_here, lookT_next, lookO_here, lookO_next]
      refine Next.intro (i + 1) rfl ?_ (by omega) (by omega)
      rw [← part_set _ _ _ hlt, ← part_set _ _ _ hlt]
      rfl
    · have c1 : ¬ (i : Int) < t.args.length := by omega
      obtain rfl : i = t.args.length := by omega
      rw [part_all, part_all, map_evR, map_rnR]
      have hcs : ∀ c ∈ t.args.map (fun a => eval a cells), inN c.n := by
        intro c hc
        obtain ⟨a, ha, rfl⟩ := List.mem_map.1 hc
        obtain ⟨k', hk'⟩ := gwt a ha
        exact vr_in (vr_eval hk' cells)
      have hflat : (t.args.map fun a => runN a cells).flatten.length ≤ 1000000 := by { have := flat_sz cells t.args (fun x _ => rn_len cells x); rw [szT_eq] at hsz; omega }
      have ev : eval t cells = evalN t.op (t.args.map fun a => eval a cells) := by rw [eval_eq, if_neg (by omega), if_neg h2]
      have rn : runN t cells = if t.op = 6 ∧ ((t.args.map fun a => eval a cells).getD 0 ⟨false, 0⟩).known = true then (t.args.map fun a => runN a cells).getD (2 - ((t.args.map fun a => eval a cells).getD 0 ⟨false, 0⟩).n).toNat []
          else if (evalN t.op (t.args.map fun a => eval a cells)).known = true then [] else (t.args.map fun a => runN a cells).flatten := by rw [runN_eq, if_neg (by omega), if_neg h2]
      have q0' : 0 < t.args.length := by have : 0 < arity t.op := by { unfold arity; (repeat' split) <;> omega }; omega
      have g0 : (t.op = 3 ∨ t.op = 6) → VR 1 ((t.args.map fun a => eval a cells).getD 0 ⟨false, 0⟩) := by
        intro h
        have := vr_eval (gfirst h q0') cells
        simpa [List.getD_eq_getElem?_getD, List.getElem?_eq_getElem q0'] using this
      have lcs : (t.args.map fun a => eval a cells).length = t.args.length := by simp
      have lrs : (t.args.map fun a => runN a cells).length = t.args.length := by simp
      generalize hcsn : (t.args.map fun a => eval a cells) = cs at *
      generalize hrsn : (t.args.map fun a => runN a cells) = rs at *
      have q0 : 0 < cs.length := by omega
      have i0 : (0 : Int) < cs.length := by omega
      have s77' := s77 t.op cs h3 g13 (by rw [lcs]; exact gar) hcs (fun h hk => bit_of (k := 1) (g0 (.inl h)) hk)
      obtain ⟨k0, n0, e0⟩ : ∃ k n, cs[0] = Cell.mk k n := ⟨_, _, rfl⟩
      have d0 : cs.getD 0 ⟨false, 0⟩ = ⟨k0, n0⟩ := by simp [List.getD_eq_getElem?_getD, List.getElem?_eq_getElem q0, e0]
      rw [d0] at g0 s77' rn
      by_cases h6 : t.op = 6
      · cases k0
        · have s77' := s77' (fun _ => rfl)
          rw [h6] at s77' ev rn
          simp only [c1, h6, i0, cell_at q0, e0, List.length_map, q_wpLs_eq_1, q_wpLs_eq_2, q_wpL_eq_1, q_AOp_dst_eq_1, q_AOp_dst_eq_8, q_AOp_dst_eq_20, q_AOp_dst_eq_22, q_exL_eq_1, q_exL_eq_3, q_exL_eq_8, q_exL_eq_11, q_exL_eq_21, q_exL_eq_23, q_exL_eq_28, q_look_eq_1, q_look_eq_2, q_insT_eq_1, q_awl_eq_1, q_awl_eq_2, q_awl_eq_5, q_awl_eq_6, q_awl_eq_9, q_AE_thenL_eq_1, q_AE_thenL_eq_2, q_AE_inBlockL_eq_2, q_putK_eq_1, q_vBin_eq_1, q_resV_eq_1, q_binV_eq_1, q_binInt_eq_3, q_cutInt_eq_6, q_cutInt_eq_8, q_vFaddr_eq_1, q_vFaddr_eq_3, q_partV_eq_2, q_loadO_eq_1, q_isV_eq_1, q_vLoad_eq_1, q_vLoad_eq_2, q_vIaddr_eq_1, q_vPick_eq_1, q_ofRow_eq_1, q_pureRow_eq_1, q_pureRow_eq_2, q_isVarO_eq_1, q_mapT_eq_1, q_mapT_eq_2, q_mapO_eq_1, q_mapO_eq_2, q_delO_eq_1, q_delO_eq_2, q_Bool_not_true, q_Option_map_some, q_List_map_cons, q_List_map_nil, q_List_take_succ_cons, q_List_take_zero, q_List_drop_zero, q_List_length_cons, q_List_length_nil, q_List_getD_cons_zero, true_and, if_true, if_false, Bool.false_eq_true, and_self, BEq.rfl, Nat.reduceAdd, Nat.reduceEqDiff, Nat.reduceLeDiff, Nat.reduceBEq, Nat.zero_add, Nat.add_zero, Int.toNat_zero, q_learn_eq_1, q_guardP_eq_1, q_condK_eq_1, q_condB_eq_1, q_condB_eq_2, q_exK_eq_1, decide_false, List.length_map, lookT_here, lookT_next, Int.reduceLE, lookO_here, lookO_next, z_V_k, z_K_c, z_O_var, z_O_arr, z_frzT, z_frzO, q_awl_eq_14, z_K_own_arr, z_K_ptr_arr, uf64r8, uf64b9, uf64b10, uf64b15, uf64r16, uf64b17, uf64b18, uf64b25, uf64b26, uf64r27, uf64b28]
          refine call_r s77' ?_
          obtain ⟨kv, nv, hev⟩ : ∃ k n, evalN 6 cs = Cell.mk k n := ⟨_, _, rfl⟩
          have hvr := vr_eval hw cells
          rw [ev] at hvr
          rw [hev] at ev rn hvr ⊢
          cases kv
          · simp only [encCV, encCell, q_wpLs_eq_1, q_wpLs_eq_2, q_wpL_eq_1, q_exL_eq_1, q_exL_eq_4, q_exL_eq_6, q_exL_eq_8, q_exL_eq_9, q_exL_eq_21, q_exL_eq_28, q_look_eq_1, q_insT_eq_1, q_insO_eq_1, q_awl_eq_1, q_awl_eq_2, q_awl_eq_5, q_awl_eq_6, q_AE_thenL_eq_1, q_putK_eq_1, q_vFaddr_eq_1, q_loadO_eq_1, q_isV_eq_1, q_vLoad_eq_1, q_vBuild_eq_1, q_rowV_eq_1, q_ofRow_eq_1, q_ofRow_eq_2, q_pureRow_eq_1, q_pureRow_eq_2, q_V_cells_eq_2, q_splice_eq_1, q_isVarO_eq_1, q_stVarK_eq_1, q_storeK_eq_1, q_freeB_eq_1, q_freeT_eq_1, q_freeT_eq_2, q_freeO_eq_1, q_freeO_eq_2, q_V_noRef_eq_1, q_V_noRef_eq_2, q_K_noRef_eq_1, q_K_noRef_eq_3, q_K_noRef_eq_5, q_O_noRef_eq_1, q_regN_eq_2, q_V_reg_eq_4, q_freesL_eq_1, q_addsL_eq_1, q_regK_eq_1, q_retK_eq_2, q_Option_map_some, q_List_map_cons, q_List_map_nil, q_List_take_succ_cons, q_List_take_zero, q_List_drop_succ_cons, q_List_drop_zero, q_List_nil_append, q_List_length_cons, q_List_length_nil, q_List_all_cons, q_List_all_nil, true_and, if_true, if_false, Bool.false_eq_true, and_self, bne_iff_ne, ne_eq, Bool.and_eq_true, Bool.and_true, Bool.true_and, Bool.or_true, Bool.false_or, List.append_nil, Nat.reduceAdd, Nat.reduceMul, Nat.reduceEqDiff, Nat.reduceLeDiff, Nat.reduceBEq, Nat.zero_add, Nat.add_zero, Nat.le_refl, q_learn_eq_1, not_false_eq_true, q_condK_eq_1, q_condB_eq_2, lookT_here, lookT_next, lookO_here, uf64r1, uf64b2, uf64b5, uf64r6, uf64b7]
            refine call_l (s78 rs hflat) ?_
            simp only [q_wpLs_eq_1, q_wpLs_eq_2, q_wpL_eq_1, q_exL_eq_1, q_exL_eq_9, q_look_eq_1, q_insT_eq_1, q_insO_eq_1, q_awl_eq_10, q_ofRow_eq_2, q_pureRow_eq_1, q_pureRow_eq_2, q_V_cells_eq_2, q_splice_eq_1, q_isArrO_eq_1, q_stVarK_eq_1, q_storeK_eq_1, q_mapT_eq_1, q_mapT_eq_2, q_mapO_eq_1, q_mapO_eq_2, q_endK_eq_2, q_endL_eq_1, q_endV_eq_1, q_resL_eq_1, q_resL_eq_2, q_resX_eq_1, q_resX_eq_2, q_resCell_eq_1, q_one_eq_2, q_V_nrm_eq_1, q_V_nrm_eq_2, q_K_nrm_eq_1, q_K_nrm_eq_2, q_K_nrm_eq_3, q_O_nrm_eq_1, q_O_nrm_eq_2, q_V_owns_eq_1, q_V_owns_eq_3, q_V_owns_eq_4, q_K_owns_eq_1, q_V_ownsL_eq_1, q_V_ownsL_eq_2, q_V_toNew_eq_1, q_V_toNew_eq_2, q_V_toNew_eq_4, q_K_toNew_eq_2, q_V_toNewL_eq_1, q_V_toNewL_eq_2, q_C_norm_eq_1, q_C_norm_eq_4, q_C_norm_eq_5, q_C_normRow_eq_1, q_C_normRow_eq_2, q_Option_map_some, q_List_map_cons, q_List_map_nil, q_List_take_succ_cons, q_List_take_zero, q_List_drop_succ_cons, q_List_drop_zero, q_List_nil_append, q_List_length_cons, q_List_length_nil, true_and, if_true, and_self, List.append_nil, List.nodup_nil, List.nodup_cons, Nat.reduceAdd, Nat.reduceLT, Nat.reduceBEq, Nat.zero_add, Nat.le_refl, not_false_eq_true, norm_lst, normRows_T, normRows_Ce, normRows_ints, lookT_here, lookT_next, lookO_here, lookO_next, List.not_mem_nil]
            exact fin_run hS rfl (by rw [ev]; have : nv = 0 := (by simpa [VR] using hvr); rw [this]) (by rw [rn]; simp [V.fz, Abs.K.fz, V.nrm, Abs.K.nrm, norm_list])
          · simp only [encCV, encCell, q_wpLs_eq_1, q_wpLs_eq_2, q_wpL_eq_1, q_exL_eq_2, q_exL_eq_4, q_exL_eq_8, q_exL_eq_9, q_exL_eq_21, q_look_eq_1, q_insT_eq_1, q_insO_eq_1, q_awl_eq_2, q_awl_eq_5, q_awl_eq_6, q_awl_eq_10, q_AE_thenL_eq_1, q_AE_thenL_eq_3, q_putK_eq_1, q_vFaddr_eq_1, q_loadO_eq_1, q_isV_eq_1, q_vLoad_eq_1, q_ofRow_eq_1, q_ofRow_eq_2, q_pureRow_eq_1, q_pureRow_eq_2, q_V_cells_eq_2, q_splice_eq_1, q_isVarO_eq_1, q_isArrO_eq_1, q_stVarK_eq_1, q_storeK_eq_1, q_mapT_eq_1, q_mapT_eq_2, q_mapO_eq_1, q_mapO_eq_2, q_freeB_eq_1, q_freeT_eq_1, q_freeT_eq_2, q_freeO_eq_1, q_freeO_eq_2, q_V_noRef_eq_1, q_V_noRef_eq_2, q_K_noRef_eq_1, q_K_noRef_eq_3, q_K_noRef_eq_5, q_O_noRef_eq_1, q_endK_eq_2, q_endL_eq_1, q_endV_eq_1, q_resL_eq_1, q_resL_eq_2, q_resX_eq_1, q_resX_eq_2, q_resCell_eq_1, q_one_eq_2, q_V_nrm_eq_1, q_V_nrm_eq_2, q_K_nrm_eq_1, q_K_nrm_eq_2, q_K_nrm_eq_3, q_O_nrm_eq_1, q_O_nrm_eq_2, q_V_owns_eq_1, q_V_owns_eq_3, q_V_owns_eq_4, q_K_owns_eq_1, q_V_ownsL_eq_1, q_V_ownsL_eq_2, q_V_toNew_eq_1, q_V_toNew_eq_2, q_V_toNew_eq_4, q_K_toNew_eq_2, q_V_toNewL_eq_1, q_V_toNewL_eq_2, q_C_norm_eq_1, q_C_norm_eq_4, q_C_norm_eq_5, q_C_normRow_eq_1, q_C_normRow_eq_2, q_C_normRows_eq_1, q_regN_eq_2, q_V_reg_eq_4, q_freesL_eq_1, q_addsL_eq_1, q_regK_eq_1, q_retK_eq_2, q_Option_map_some, q_List_map_cons, q_List_map_nil, q_List_take_succ_cons, q_List_take_zero, q_List_drop_succ_cons, q_List_drop_zero, q_List_nil_append, q_List_length_cons, q_List_length_nil, q_List_all_cons, q_List_all_nil, true_and, if_true, if_false, Bool.false_eq_true, and_self, bne_iff_ne, ne_eq, Bool.and_eq_true, Bool.and_true, Bool.true_and, Bool.or_true, Bool.false_or, List.append_nil, List.nodup_nil, List.nodup_cons, Nat.reduceAdd, Nat.reduceMul, Nat.reduceEqDiff, Nat.reduceLeDiff, Nat.reduceLT, Nat.reduceBEq, Nat.zero_add, Nat.add_zero, Nat.le_refl, q_learn_eq_1, not_false_eq_true, q_condK_eq_1, q_condB_eq_1, norm_lst, normRows_T, normRows_Ce, lookT_here, lookT_next, lookO_here, lookO_next, List.not_mem_nil, uf64r3, uf64b4, uf64b5, uf64r6, uf64b7]
            exact fin_run hS rfl (by rw [ev]) (by rw [rn]; simp [V.fz, Abs.K.fz, V.nrm, Abs.K.nrm, norm_list, ints])
        · have h01 := bit_of (k := 1) (g0 (.inr h6)) rfl
          simp only [] at h01
          rw [h6] at ev rn gar
          have h63 : arity 6 = 3 := by decide
          have l3 : cs.length = 3 := by omega
          have r3 : rs.length = 3 := by omega
          have w0 : IntKind.i64.wrap 2 = 2 := rfl
          have w1 : IntKind.i64.wrap 1 = 1 := rfl
          rcases h01 with rfl | rfl
          · have q2 : 2 < cs.length := by omega
            have r2 : 2 < rs.length := by omega
            obtain ⟨km, nm, em⟩ : ∃ k n, cs[2] = Cell.mk k n := ⟨_, _, rfl⟩
            have i2 : (2 : Int) < cs.length := by omega
            have j2 : (2 : Int) < rs.length := by omega
            have t2 : (2 : Int).toNat = 2 := rfl
            simp only [c1, h6, i0, i2, j2, t2, w0, w1, cell_at q0, cell_at q2, encL_at r2, e0, em, List.length_map, q_wpLs_eq_1, q_wpLs_eq_2, q_wpLT_eq_1, q_wpLT_eq_3, q_wpLT_eq_4, q_wpLT_eq_5, q_wpL_eq_1, q_wpLQ_eq_1, q_AOp_dst_eq_1, q_AOp_dst_eq_8, q_AOp_dst_eq_20, q_AOp_dst_eq_22, q_exL_eq_1, q_exL_eq_3, q_exL_eq_8, q_exL_eq_11, q_exL_eq_21, q_exL_eq_23, q_exLQ_eq_1, q_exLQ_eq_9, q_exLQ_eq_10, q_exLQ_eq_24, q_look_eq_1, q_look_eq_2, q_lookO_eq_1, q_insT_eq_1, q_insO_eq_1, q_awl_eq_2, q_awl_eq_4, q_awl_eq_5, q_awl_eq_6, q_awl_eq_9, q_awl_eq_10, q_awl_eq_11, q_AE_thenL_eq_1, q_AE_thenL_eq_2, q_AE_thenL_eq_3, q_AE_inBlockL_eq_2, q_keepT_eq_1, q_keepT_eq_2, q_keepO_eq_1, q_keepO_eq_2, q_addO_eq_1, q_addO_eq_2, q_putK_eq_1, q_vBin_eq_1, q_resV_eq_1, q_binV_eq_1, q_binInt_eq_3, q_cutInt_eq_2, q_cutInt_eq_6, q_cutInt_eq_8, q_vFaddr_eq_1, q_vFaddr_eq_3, q_partV_eq_1, q_partV_eq_2, q_loadO_eq_1, q_isV_eq_1, q_vLoad_eq_1, q_vLoad_eq_2, q_vIaddr_eq_1, q_vPick_eq_1, q_ofRow_eq_1, q_ofRow_eq_2, q_pureRow_eq_1, q_pureRow_eq_2, q_V_cells_eq_2, q_splice_eq_1, q_isVarO_eq_1, q_stVarK_eq_1, q_storeK_eq_1, q_mapT_eq_1, q_mapT_eq_2, q_mapO_eq_1, q_mapO_eq_2, q_delO_eq_1, q_delO_eq_2, q_endK_eq_2, q_endL_eq_1, q_endV_eq_1, q_resL_eq_1, q_resL_eq_2, q_resX_eq_1, q_resX_eq_2, q_resCell_eq_1, q_one_eq_2, q_V_nrm_eq_1, q_K_nrm_eq_1, q_K_nrm_eq_3, q_O_nrm_eq_1, q_V_owns_eq_1, q_V_owns_eq_3, q_V_owns_eq_4, q_K_owns_eq_2, q_V_ownsL_eq_1, q_V_ownsL_eq_2, q_V_toNew_eq_1, q_V_toNew_eq_2, q_V_toNew_eq_4, q_K_toNew_eq_1, q_V_toNewL_eq_1, q_V_toNewL_eq_2, q_C_norm_eq_4, q_C_norm_eq_5, q_Bool_not_true, q_Option_map_some, q_List_map_cons, q_List_map_nil, q_List_take_succ_cons, q_List_take_zero, q_List_drop_succ_cons, q_List_drop_zero, q_List_nil_append, q_List_length_cons, q_List_length_nil, q_List_getD_cons_zero, q_List_getD_cons_succ, true_and, and_true, if_true, if_false, Bool.false_eq_true, and_self, BEq.rfl, List.append_nil, List.nodup_nil, Nat.reduceAdd, Nat.reduceEqDiff, Nat.reduceLeDiff, Nat.reduceLT, Nat.reduceBEq, Nat.zero_add, Nat.add_zero, Int.toNat_zero, Nat.le_refl, q_learn_eq_1, q_guardP_eq_1, q_condK_eq_1, q_condB_eq_1, q_condB_eq_2, q_exK_eq_1, decide_false, norm_lst, normRows_ints, List.length_map, lookT_here, lookT_next, Int.reduceLE, Int.reduceSub, lookO_here, lookO_next, z_V_k, z_K_c, z_O_var, z_O_arr, z_frzT, z_frzO, q_awl_eq_14, z_K_own_arr, z_K_ptr_arr, uf64r11o0, uf64r11o1, uf64r11o2, uf64r11o3, uf64r11o4, uf64r11o5, uf64r11o6, uf64r11o7, uf64r11o8, uf64r11o9, utf64r11, uf64b12, uf64r13, uf64b14, uf64b15, uf64r16, uf64b17, uf64b18, uf64b25, uf64b26, uf64r27, uf64b28]
            refine fin_run hS rfl ?_ ?_
            · rw [ev]; simp [evalN, List.getD_eq_getElem?_getD, List.getElem?_eq_getElem q0, List.getElem?_eq_getElem q2, e0, em]
            · rw [rn]; simp [V.fz, Abs.K.fz, V.nrm, Abs.K.nrm, norm_list, List.getElem?_eq_getElem r2]
          · have q2 : 1 < cs.length := by omega
            have r2 : 1 < rs.length := by omega
            obtain ⟨km, nm, em⟩ : ∃ k n, cs[1] = Cell.mk k n := ⟨_, _, rfl⟩
            have i2 : (1 : Int) < cs.length := by omega
            have j2 : (1 : Int) < rs.length := by omega
            have t2 : (1 : Int).toNat = 1 := rfl
            simp only [c1, h6, i0, i2, j2, t2, w0, w1, cell_at q0, cell_at q2, encL_at r2, e0, em, List.length_map, q_wpLs_eq_1, q_wpLs_eq_2, q_wpLT_eq_1, q_wpLT_eq_3, q_wpLT_eq_4, q_wpLT_eq_5, q_wpL_eq_1, q_wpLQ_eq_1, q_AOp_dst_eq_1, q_AOp_dst_eq_8, q_AOp_dst_eq_20, q_AOp_dst_eq_22, q_exL_eq_1, q_exL_eq_3, q_exL_eq_8, q_exL_eq_11, q_exL_eq_21, q_exL_eq_23, q_exLQ_eq_1, q_exLQ_eq_9, q_exLQ_eq_10, q_exLQ_eq_24, q_look_eq_1, q_look_eq_2, q_lookO_eq_1, q_insT_eq_1, q_insO_eq_1, q_awl_eq_2, q_awl_eq_4, q_awl_eq_5, q_awl_eq_6, q_awl_eq_9, q_awl_eq_10, q_awl_eq_11, q_AE_thenL_eq_1, q_AE_thenL_eq_2, q_AE_thenL_eq_3, q_AE_inBlockL_eq_2, q_keepT_eq_1, q_keepT_eq_2, q_keepO_eq_1, q_keepO_eq_2, q_addO_eq_1, q_addO_eq_2, q_putK_eq_1, q_vBin_eq_1, q_resV_eq_1, q_binV_eq_1, q_binInt_eq_3, q_cutInt_eq_2, q_cutInt_eq_6, q_cutInt_eq_8, q_vFaddr_eq_1, q_vFaddr_eq_3, q_partV_eq_1, q_partV_eq_2, q_loadO_eq_1, q_isV_eq_1, q_vLoad_eq_1, q_vLoad_eq_2, q_vIaddr_eq_1, q_vPick_eq_1, q_ofRow_eq_1, q_ofRow_eq_2, q_pureRow_eq_1, q_pureRow_eq_2, q_V_cells_eq_2, q_splice_eq_1, q_isVarO_eq_1, q_stVarK_eq_1, q_storeK_eq_1, q_mapT_eq_1, q_mapT_eq_2, q_mapO_eq_1, q_mapO_eq_2, q_delO_eq_1, q_delO_eq_2, q_endK_eq_2, q_endL_eq_1, q_endV_eq_1, q_resL_eq_1, q_resL_eq_2, q_resX_eq_1, q_resX_eq_2, q_resCell_eq_1, q_one_eq_2, q_V_nrm_eq_1, q_K_nrm_eq_1, q_K_nrm_eq_3, q_O_nrm_eq_1, q_V_owns_eq_1, q_V_owns_eq_3, q_V_owns_eq_4, q_K_owns_eq_2, q_V_ownsL_eq_1, q_V_ownsL_eq_2, q_V_toNew_eq_1, q_V_toNew_eq_2, q_V_toNew_eq_4, q_K_toNew_eq_1, q_V_toNewL_eq_1, q_V_toNewL_eq_2, q_C_norm_eq_4, q_C_norm_eq_5, q_Bool_not_true, q_Option_map_some, q_List_map_cons, q_List_map_nil, q_List_take_succ_cons, q_List_take_zero, q_List_drop_succ_cons, q_List_drop_zero, q_List_nil_append, q_List_length_cons, q_List_length_nil, q_List_getD_cons_zero, q_List_getD_cons_succ, true_and, and_true, if_true, if_false, Bool.false_eq_true, and_self, BEq.rfl, List.append_nil, List.nodup_nil, Nat.reduceAdd, Nat.reduceEqDiff, Nat.reduceLeDiff, Nat.reduceLT, Nat.reduceBEq, Nat.zero_add, Nat.add_zero, Int.toNat_zero, Nat.le_refl, q_learn_eq_1, q_guardP_eq_1, q_condK_eq_1, q_condB_eq_1, q_condB_eq_2, q_exK_eq_1, decide_false, norm_lst, normRows_ints, List.length_map, lookT_here, lookT_next, Int.reduceLE, Int.reduceSub, lookO_here, lookO_next, z_V_k, z_K_c, z_O_var, z_O_arr, z_frzT, z_frzO, q_awl_eq_14, z_K_own_arr, z_K_ptr_arr, uf64r11o0, uf64r11o1, uf64r11o2, uf64r11o3, uf64r11o4, uf64r11o5, uf64r11o6, uf64r11o7, uf64r11o8, uf64r11o9, utf64r11, uf64b12, uf64r13, uf64b14, uf64b15, uf64r16, uf64b17, uf64b18, uf64b25, uf64b26, uf64r27, uf64b28]
            refine fin_run hS rfl ?_ ?_
            · rw [ev]; simp [evalN, List.getD_eq_getElem?_getD, List.getElem?_eq_getElem q0, List.getElem?_eq_getElem q2, e0, em]
            · rw [rn]; simp [V.fz, Abs.K.fz, V.nrm, Abs.K.nrm, norm_list, List.getElem?_eq_getElem r2]
      · have s77' := s77' (fun h => absurd h h6)
        rw [if_neg (by simp [h6])] at rn
        simp only [c1, h6, q_wpLs_eq_1, q_wpLs_eq_2, q_wpL_eq_1, q_putDL_eq_1, q_AOp_dst_eq_1, q_AOp_dst_eq_8, q_AOp_dst_eq_20, q_AOp_dst_eq_22, q_exL_eq_1, q_exL_eq_3, q_exL_eq_8, q_exL_eq_11, q_exL_eq_21, q_exL_eq_23, q_exL_eq_28, q_look_eq_1, q_look_eq_2, q_insT_eq_1, q_awl_eq_1, q_awl_eq_2, q_awl_eq_5, q_awl_eq_6, q_awl_eq_9, q_AE_thenL_eq_1, q_AE_thenL_eq_2, q_AE_inBlockL_eq_2, q_putK_eq_1, q_vBin_eq_1, q_resV_eq_1, q_binV_eq_1, q_binInt_eq_3, q_cutInt_eq_6, q_cutInt_eq_8, q_vFaddr_eq_1, q_vFaddr_eq_3, q_partV_eq_2, q_loadO_eq_1, q_isV_eq_1, q_vLoad_eq_1, q_vLoad_eq_2, q_vIaddr_eq_1, q_vPick_eq_3, q_ofRow_eq_1, q_pureRow_eq_1, q_pureRow_eq_2, q_isVarO_eq_1, q_mapT_eq_1, q_mapT_eq_2, q_mapO_eq_1, q_mapO_eq_2, q_delO_eq_1, q_delO_eq_2, q_Bool_not_true, q_Option_map_some, q_List_map_cons, q_List_map_nil, q_List_take_succ_cons, q_List_take_zero, q_List_drop_zero, q_List_length_cons, q_List_length_nil, true_and, and_true, if_true, if_false, Bool.false_eq_true, false_implies, forall_const, Nat.reduceAdd, Nat.reduceEqDiff, Nat.reduceLeDiff, Nat.reduceBEq, Nat.zero_add, Nat.add_zero, Int.toNat_zero, q_learn_eq_1, not_false_eq_true, q_guardP_eq_1, q_condK_eq_1, q_condB_eq_1, q_condB_eq_2, q_exK_eq_1, condB_beq, decide_false, List.length_map, lookT_here, lookT_next, Int.reduceLE, lookO_here, lookO_next, z_V_k, z_K_c, z_O_var, z_O_arr, z_frzT, z_frzO, q_awl_eq_14, z_K_own_arr, z_K_ptr_arr, uf64r8, uf64b9, uf64b10, uf64b15, uf64r16, uf64b17, uf64b18, uf64b25, uf64b26, uf64r27, uf64b28]
        refine call_r s77' ?_
        obtain ⟨kv, nv, hev⟩ : ∃ k n, evalN t.op cs = Cell.mk k n := ⟨_, _, rfl⟩
        have hvr := vr_eval hw cells
        rw [ev] at hvr
        rw [hev] at ev rn hvr ⊢
        cases kv
        · simp only [encCV, encCell, q_wpLs_eq_1, q_wpLs_eq_2, q_wpL_eq_1, q_exL_eq_1, q_exL_eq_4, q_exL_eq_6, q_exL_eq_8, q_exL_eq_9, q_exL_eq_21, q_exL_eq_28, q_look_eq_1, q_insT_eq_1, q_insO_eq_1, q_awl_eq_1, q_awl_eq_2, q_awl_eq_5, q_awl_eq_6, q_AE_thenL_eq_1, q_putK_eq_1, q_vFaddr_eq_1, q_loadO_eq_1, q_isV_eq_1, q_vLoad_eq_1, q_vBuild_eq_1, q_rowV_eq_1, q_ofRow_eq_1, q_ofRow_eq_2, q_pureRow_eq_1, q_pureRow_eq_2, q_V_cells_eq_2, q_splice_eq_1, q_isVarO_eq_1, q_stVarK_eq_1, q_storeK_eq_1, q_freeB_eq_1, q_freeT_eq_1, q_freeT_eq_2, q_freeO_eq_1, q_freeO_eq_2, q_V_noRef_eq_1, q_V_noRef_eq_2, q_V_noRef_eq_5, q_K_noRef_eq_1, q_K_noRef_eq_3, q_O_noRef_eq_1, q_regN_eq_2, q_V_reg_eq_4, q_freesL_eq_1, q_addsL_eq_1, q_regK_eq_1, q_retK_eq_2, q_Option_map_some, q_List_map_cons, q_List_map_nil, q_List_take_succ_cons, q_List_take_zero, q_List_drop_succ_cons, q_List_drop_zero, q_List_nil_append, q_List_length_cons, q_List_length_nil, q_List_all_cons, q_List_all_nil, true_and, if_true, if_false, Bool.false_eq_true, and_self, bne_iff_ne, ne_eq, Bool.and_eq_true, Bool.and_true, Bool.true_and, Bool.or_true, Bool.false_or, List.append_nil, Nat.reduceAdd, Nat.reduceMul, Nat.reduceEqDiff, Nat.reduceLeDiff, Nat.reduceBEq, Nat.zero_add, Nat.add_zero, Nat.le_refl, q_learn_eq_1, not_false_eq_true, q_condK_eq_1, q_condB_eq_2, lookT_here, lookT_next, lookO_here, uf64r1, uf64b2, uf64b5, uf64r6, uf64b7]
          refine call_l (s78 rs hflat) ?_
          simp only [q_wpLs_eq_1, q_wpLs_eq_2, q_wpL_eq_1, q_exL_eq_1, q_exL_eq_9, q_look_eq_1, q_insT_eq_1, q_insO_eq_1, q_awl_eq_10, q_ofRow_eq_2, q_pureRow_eq_1, q_pureRow_eq_2, q_V_cells_eq_2, q_splice_eq_1, q_isArrO_eq_1, q_stVarK_eq_1, q_storeK_eq_1, q_mapT_eq_1, q_mapT_eq_2, q_mapO_eq_1, q_mapO_eq_2, q_endK_eq_2, q_endL_eq_1, q_endV_eq_1, q_resL_eq_1, q_resL_eq_2, q_resX_eq_1, q_resX_eq_2, q_resCell_eq_1, q_one_eq_2, q_V_nrm_eq_1, q_V_nrm_eq_2, q_V_nrm_eq_5, q_K_nrm_eq_1, q_K_nrm_eq_3, q_O_nrm_eq_1, q_O_nrm_eq_2, q_V_owns_eq_1, q_V_owns_eq_3, q_V_owns_eq_4, q_K_owns_eq_1, q_V_ownsL_eq_1, q_V_ownsL_eq_2, q_V_toNew_eq_1, q_V_toNew_eq_2, q_V_toNew_eq_4, q_K_toNew_eq_2, q_V_toNewL_eq_1, q_V_toNewL_eq_2, q_C_norm_eq_1, q_C_norm_eq_4, q_C_norm_eq_5, q_C_normRow_eq_1, q_C_normRow_eq_2, q_Option_map_some, q_List_map_cons, q_List_map_nil, q_List_take_succ_cons, q_List_take_zero, q_List_drop_succ_cons, q_List_drop_zero, q_List_nil_append, q_List_length_cons, q_List_length_nil, true_and, if_true, and_self, List.append_nil, List.nodup_nil, List.nodup_cons, Nat.reduceAdd, Nat.reduceLT, Nat.reduceBEq, Nat.zero_add, Nat.le_refl, not_false_eq_true, norm_lst, normRows_T, normRows_Ce, normRows_ints, lookT_here, lookT_next, lookO_here, lookO_next, List.not_mem_nil]
          exact fin_run hS rfl (by rw [ev]; have : nv = 0 := (by simpa [VR] using hvr); rw [this]) (by rw [rn]; simp [V.fz, Abs.K.fz, V.nrm, Abs.K.nrm, norm_list])
        · simp only [encCV, encCell, q_wpLs_eq_1, q_wpLs_eq_2, q_wpL_eq_1, q_exL_eq_2, q_exL_eq_4, q_exL_eq_8, q_exL_eq_9, q_exL_eq_21, q_look_eq_1, q_insT_eq_1, q_insO_eq_1, q_awl_eq_2, q_awl_eq_5, q_awl_eq_6, q_awl_eq_10, q_AE_thenL_eq_1, q_AE_thenL_eq_3, q_putK_eq_1, q_vFaddr_eq_1, q_loadO_eq_1, q_isV_eq_1, q_vLoad_eq_1, q_ofRow_eq_1, q_ofRow_eq_2, q_pureRow_eq_1, q_pureRow_eq_2, q_V_cells_eq_2, q_splice_eq_1, q_isVarO_eq_1, q_isArrO_eq_1, q_stVarK_eq_1, q_storeK_eq_1, q_mapT_eq_1, q_mapT_eq_2, q_mapO_eq_1, q_mapO_eq_2, q_freeB_eq_1, q_freeT_eq_1, q_freeT_eq_2, q_freeO_eq_1, q_freeO_eq_2, q_V_noRef_eq_1, q_V_noRef_eq_2, q_V_noRef_eq_5, q_K_noRef_eq_1, q_K_noRef_eq_3, q_O_noRef_eq_1, q_endK_eq_2, q_endL_eq_1, q_endV_eq_1, q_resL_eq_1, q_resL_eq_2, q_resX_eq_1, q_resX_eq_2, q_resCell_eq_1, q_one_eq_2, q_V_nrm_eq_1, q_V_nrm_eq_2, q_V_nrm_eq_5, q_K_nrm_eq_1, q_K_nrm_eq_3, q_O_nrm_eq_1, q_O_nrm_eq_2, q_V_owns_eq_1, q_V_owns_eq_3, q_V_owns_eq_4, q_K_owns_eq_1, q_V_ownsL_eq_1, q_V_ownsL_eq_2, q_V_toNew_eq_1, q_V_toNew_eq_2, q_V_toNew_eq_4, q_K_toNew_eq_2, q_V_toNewL_eq_1, q_V_toNewL_eq_2, q_C_norm_eq_1, q_C_norm_eq_4, q_C_norm_eq_5, q_C_normRow_eq_1, q_C_normRow_eq_2, q_C_normRows_eq_1, q_regN_eq_2, q_V_reg_eq_4, q_freesL_eq_1, q_addsL_eq_1, q_regK_eq_1, q_retK_eq_2, q_Option_map_some, q_List_map_cons, q_List_map_nil, q_List_take_succ_cons, q_List_take_zero, q_List_drop_succ_cons, q_List_drop_zero, q_List_nil_append, q_List_length_cons, q_List_length_nil, q_List_all_cons, q_List_all_nil, true_and, if_true, if_false, Bool.false_eq_true, and_self, bne_iff_ne, ne_eq, Bool.and_eq_true, Bool.and_true, Bool.true_and, Bool.or_true, Bool.false_or, List.append_nil, List.nodup_nil, List.nodup_cons, Nat.reduceAdd, Nat.reduceMul, Nat.reduceEqDiff, Nat.reduceLeDiff, Nat.reduceLT, Nat.reduceBEq, Nat.zero_add, Nat.add_zero, Nat.le_refl, q_learn_eq_1, not_false_eq_true, q_condK_eq_1, q_condB_eq_1, norm_lst, normRows_T, normRows_Ce, lookT_here, lookT_next, lookO_here, lookO_next, List.not_mem_nil, uf64r3, uf64b4, uf64b5, uf64r6, uf64b7]
          exact fin_run hS rfl (by rw [ev]) (by rw [rn]; simp [V.fz, Abs.K.fz, V.nrm, Abs.K.nrm, norm_list, ints])
  exact Term.ind fun o n a ih => main _ ih
end Go.Abs


set_option maxRecDepth 100000
set_option maxHeartbeats 4000000
namespace Go.Abs
open Go.Proofs
theorem sz_of_check {t : Term} (h : (checkT t).2 = 0) : (chk t).2 = 0 ∧ checkT t = chk t ∧ szT t ≤ 60 := by
  unfold checkT at h ⊢
  split at h
  · simp at h
  · rename_i hn
    rw [if_neg hn]
    have := (szT_nodes 8).1 t 60 (by simp; omega)
    refine ⟨h, rfl, ?_⟩
    simp at this
    omega
theorem s37 (t : Term) (cells : List Cell) : Spec Try.prog 37 [.agg (encT t), lst 2 (cells.map encCell)] (fun r => r = encCV (evalT t cells)) := by
  refine Spec.of_awlS hf37 okf37 (by simp) fun S hS => ?_
  simp only [encT_eq, q_wpLs_eq_1, q_wpLs_eq_2, q_wpL_eq_1, q_exL_eq_4, q_exL_eq_5, q_exL_eq_8, q_exL_eq_28, q_look_eq_1, q_insT_eq_1, q_insO_eq_1, q_awl_eq_2, q_awl_eq_5, q_AE_thenL_eq_1, q_initT_eq_1, q_initT_eq_2, q_putK_eq_1, q_loadO_eq_1, q_isV_eq_1, q_vLoad_eq_1, q_ofRow_eq_2, q_pureRow_eq_1, q_pureRow_eq_2, q_boxK_eq_1, q_freeB_eq_1, q_freeT_eq_1, q_freeT_eq_2, q_freeO_eq_1, q_freeO_eq_2, q_V_noRef_eq_1, q_V_noRef_eq_2, q_K_noRef_eq_1, q_K_noRef_eq_3, q_O_noRef_eq_1, q_Option_map_some, q_List_map_cons, q_List_map_nil, q_List_take_succ_cons, q_List_take_zero, q_List_drop_zero, q_List_length_cons, q_List_length_nil, q_List_all_cons, q_List_all_nil, true_and, if_true, bne_iff_ne, ne_eq, Bool.and_true, Bool.or_true, Bool.false_or, Nat.reduceAdd, Nat.reduceEqDiff, Nat.reduceBEq, Nat.zero_add, Nat.le_refl, not_false_eq_true, lookT_here, lookT_next, lookO_here, lookO_next, uf37, uf37r10, uf37b11, uf37b12, uf37r13, uf37b14]
  refine call_s (s31 t) ?_
  by_cases h : (checkT t).2 = 0
  · obtain ⟨hc, he, hsz⟩ := sz_of_check h
    have hw := wt_of t hc
    rw [evalT, if_neg (by simp [h])] at hS
    simp only [pairV, h, q_wpLs_eq_1, q_wpLs_eq_2, q_wpL_eq_1, q_exL_eq_1, q_exL_eq_6, q_exL_eq_8, q_exL_eq_11, q_exL_eq_27, q_exL_eq_28, q_look_eq_1, q_look_eq_2, q_insT_eq_1, q_awl_eq_1, q_awl_eq_2, q_awl_eq_5, q_awl_eq_6, q_AE_thenL_eq_1, q_putK_eq_1, q_vBin_eq_1, q_resV_eq_1, q_binV_eq_1, q_binInt_eq_3, q_cutInt_eq_7, q_vExtr_eq_1, q_loadO_eq_1, q_isV_eq_1, q_vLoad_eq_1, q_vBuild_eq_1, q_vBuild_eq_2, q_rowV_eq_1, q_ofRow_eq_1, q_ofRow_eq_2, q_pureRow_eq_1, q_pureRow_eq_2, q_V_cells_eq_1, q_splice_eq_1, q_Option_map_some, q_List_map_cons, q_List_map_nil, q_List_take_succ_cons, q_List_take_zero, q_List_drop_succ_cons, q_List_drop_zero, q_List_nil_append, q_List_length_cons, q_List_length_nil, q_List_getElemQ_cons_zero, q_List_getElemQ_cons_succ, true_and, if_true, and_self, List.append_nil, Nat.reduceAdd, Nat.reduceBEq, Nat.zero_add, Nat.le_refl, q_learn_eq_1, q_condK_eq_1, q_condB_eq_2, lookT_here, lookT_next, Int.reduceBNe, lookO_here, lookO_next, uf37r3, uf37b4, uf37b7, uf37r8, uf37b9]
    refine call_r (s64 t _ hw (by omega) cells) ?_
    simp only [runV, encCell, q_wpLs_eq_1, q_wpLs_eq_2, q_wpL_eq_1, q_exL_eq_1, q_exL_eq_4, q_exL_eq_8, q_exL_eq_9, q_exL_eq_27, q_look_eq_1, q_insT_eq_1, q_insO_eq_1, q_awl_eq_2, q_awl_eq_5, q_awl_eq_10, q_AE_thenL_eq_1, q_putK_eq_1, q_vExtr_eq_1, q_loadO_eq_1, q_isV_eq_1, q_vLoad_eq_1, q_ofRow_eq_2, q_pureRow_eq_1, q_pureRow_eq_2, q_V_cells_eq_2, q_splice_eq_1, q_stVarK_eq_1, q_storeK_eq_1, q_mapT_eq_1, q_mapT_eq_2, q_mapO_eq_1, q_mapO_eq_2, q_freeB_eq_1, q_freeT_eq_1, q_freeT_eq_2, q_freeO_eq_1, q_freeO_eq_2, q_V_noRef_eq_1, q_V_noRef_eq_2, q_V_noRef_eq_4, q_K_noRef_eq_1, q_K_noRef_eq_3, q_O_noRef_eq_1, q_V_noRefL_eq_1, q_V_noRefL_eq_2, q_endK_eq_2, q_endL_eq_1, q_endV_eq_1, q_resL_eq_1, q_resL_eq_2, q_resX_eq_2, q_resCell_eq_1, q_one_eq_1, q_V_nrm_eq_1, q_V_nrm_eq_2, q_V_nrm_eq_4, q_K_nrm_eq_1, q_K_nrm_eq_3, q_V_nrmL_eq_1, q_V_nrmL_eq_2, q_O_nrm_eq_1, q_V_owns_eq_4, q_V_toNew_eq_2, q_C_norm_eq_4, q_C_norm_eq_5, q_C_normRow_eq_1, q_C_normRow_eq_2, q_regN_eq_2, q_V_reg_eq_3, q_V_reg_eq_4, q_V_regL_eq_1, q_V_regL_eq_2, q_freesL_eq_1, q_addsL_eq_1, q_regK_eq_1, q_retK_eq_2, q_Option_map_some, q_List_map_cons, q_List_map_nil, q_List_take_succ_cons, q_List_take_zero, q_List_drop_succ_cons, q_List_drop_zero, q_List_nil_append, q_List_length_cons, q_List_length_nil, q_List_getElemQ_cons_zero, q_List_getElemQ_cons_succ, q_List_all_cons, q_List_all_nil, true_and, if_true, and_self, bne_iff_ne, ne_eq, Bool.and_eq_true, Bool.and_true, Bool.true_and, Bool.or_true, Bool.false_or, List.append_nil, List.nodup_nil, Nat.reduceAdd, Nat.reduceMul, Nat.reduceEqDiff, Nat.reduceLT, Nat.reduceBEq, Nat.zero_add, Nat.add_zero, Nat.le_refl, not_false_eq_true, norm_lst, normRows_T, normRows_Ce, normRows_ints, lookT_here, lookT_next, lookO_here, lookO_next, uf37r1, uf37b2]
    exact fin_cell hS rfl
  · rw [evalT, if_pos h] at hS
    simp only [pairV, h, q_wpLs_eq_1, q_wpLs_eq_2, q_wpL_eq_1, q_exL_eq_1, q_exL_eq_6, q_exL_eq_8, q_exL_eq_9, q_exL_eq_11, q_exL_eq_27, q_exL_eq_28, q_look_eq_1, q_look_eq_2, q_insT_eq_1, q_insO_eq_1, q_awl_eq_1, q_awl_eq_2, q_awl_eq_5, q_awl_eq_6, q_awl_eq_10, q_AE_thenL_eq_1, q_AE_thenL_eq_3, q_putK_eq_1, q_vBin_eq_1, q_resV_eq_1, q_binV_eq_1, q_binInt_eq_3, q_cutInt_eq_7, q_vExtr_eq_1, q_loadO_eq_1, q_isV_eq_1, q_vLoad_eq_1, q_vBuild_eq_1, q_vBuild_eq_2, q_rowV_eq_1, q_ofRow_eq_1, q_ofRow_eq_2, q_pureRow_eq_1, q_pureRow_eq_2, q_V_cells_eq_1, q_V_cells_eq_2, q_splice_eq_1, q_stVarK_eq_1, q_storeK_eq_1, q_mapT_eq_1, q_mapT_eq_2, q_mapO_eq_1, q_mapO_eq_2, q_endK_eq_2, q_endL_eq_1, q_endV_eq_1, q_resL_eq_1, q_resL_eq_2, q_resX_eq_2, q_resCell_eq_1, q_one_eq_1, q_V_nrm_eq_1, q_V_nrm_eq_2, q_V_nrm_eq_4, q_K_nrm_eq_1, q_K_nrm_eq_3, q_V_nrmL_eq_1, q_V_nrmL_eq_2, q_O_nrm_eq_1, q_V_owns_eq_4, q_V_toNew_eq_2, q_C_norm_eq_4, q_C_norm_eq_5, q_C_normRow_eq_1, q_C_normRow_eq_2, q_Option_map_some, q_List_map_cons, q_List_map_nil, q_List_take_succ_cons, q_List_take_zero, q_List_drop_succ_cons, q_List_drop_zero, q_List_nil_append, q_List_length_cons, q_List_length_nil, q_List_getElemQ_cons_zero, q_List_getElemQ_cons_succ, true_and, and_true, if_true, false_implies, forall_const, and_self, List.append_nil, List.nodup_nil, Nat.reduceAdd, Nat.reduceLT, Nat.reduceBEq, Nat.zero_add, Nat.le_refl, q_learn_eq_1, not_false_eq_true, q_condK_eq_1, condB_bne, norm_lst, normRows_T, normRows_Ce, lookT_here, lookT_next, lookO_here, lookO_next, uf37r3, uf37b4, uf37r5, uf37b6, uf37b7, uf37r8, uf37b9]
    exact fin_cell hS rfl
end Go.Abs


set_option maxRecDepth 100000
set_option maxHeartbeats 4000000
namespace Go.Abs
open Go.Proofs
def knownC (l : List Int) (i : Nat) : List Cell := (List.range i).map fun v => ⟨true, l.getD v 0⟩
theorem knownC_succ (l : List Int) (i : Nat) : (knownC l i).map encCell ++ [[.bool true, .int .i64 (l.getD i 0)]] = (knownC l (i + 1)).map encCell := by
  simp [knownC, List.range_succ, encCell]
theorem s43 (l : List Int) : Spec Try.prog 43 [lst 1 (ints l)] (fun r => r = .k (.newl 53 2 none ((knownC l 20).map encCell))) := by
  refine Spec.of_awlS hf43 okf43 (by simp) fun S hS => ?_
  simp only [q_wpLs_eq_1, q_wpLs_eq_2, q_wpL_eq_1, q_exL_eq_1, q_exL_eq_2, q_exL_eq_7, q_look_eq_1, q_look_eq_2, q_insT_eq_1, q_insO_eq_1, q_awl_eq_2, q_awl_eq_5, q_awl_eq_7, q_AE_thenL_eq_1, q_initT_eq_1, q_initT_eq_2, q_vLits_eq_1, q_bsK_eq_1, q_freeB_eq_1, q_freeT_eq_1, q_freeT_eq_2, q_freeO_eq_1, q_freeO_eq_2, q_V_noRef_eq_1, q_K_noRef_eq_1, q_K_noRef_eq_2, q_O_noRef_eq_2, q_List_map_nil, q_List_foldl_nil, q_List_replicate_zero, q_List_length_cons, q_List_length_nil, true_and, false_implies, implies_true, bne_iff_ne, ne_eq, Bool.and_true, Bool.or_true, Bool.false_or, Nat.reduceAdd, Nat.reduceEqDiff, Nat.reduceBEq, Nat.zero_add, not_false_eq_true, lookT_here, List.not_mem_nil, implies_true, uf43, uf43b19, uf43r20, uf43b21, uf43b22, uf43r23, uf43b24, uf43r25, uf43b26]
  rw [uf43l18]
  refine awl_loop (fun i : Nat => [(0, lst 1 (ints l)), (3, .k (.own 6)), (4, .int .i64 i)]) (fun i => [(6, .arr 53 2 (some false) ((knownC l i).map encCell))])
    (fun i => i ≤ 20) (fun i => 20 - i) 0 rfl rfl (Nat.zero_le _) ?_
  intro i hi
  have hle : (knownC l i).length = i := by simp [knownC]
  by_cases hlt : i < 20
  · have c1 : (i : Int) < 20 := by omega
    have c4 : IntKind.i64.wrap ((i : Int) + 1) = (i : Int) + 1 := wrap_in (by omega) (by omega)
    have hs := knownC_succ l i
    by_cases hil : i < l.length
    · have c2 : (i : Int) < l.length := by omega
      have e : l.getD i 0 = l[i] := by simp [List.getD_eq_getElem?_getD, List.getElem?_eq_getElem hil]
      rw [e] at hs
      simp only [c1, c2, c4, ints_at hil, ints_len, List.length_map, hle, hs, q_wpLs_eq_1, q_wpLs_eq_2, q_wpL_eq_1, q_exL_eq_1, q_exL_eq_6, q_exL_eq_7, q_exL_eq_8, q_exL_eq_11, q_exL_eq_23, q_exL_eq_30, q_exL_eq_33, q_look_eq_1, q_look_eq_2, q_insT_eq_1, q_insO_eq_1, q_awl_eq_1, q_awl_eq_2, q_awl_eq_5, q_awl_eq_6, q_awl_eq_7, q_AE_thenL_eq_1, q_AE_inBlockL_eq_1, q_putK_eq_1, q_vBin_eq_1, q_resV_eq_1, q_binV_eq_1, q_binInt_eq_3, q_cutInt_eq_1, q_cutInt_eq_8, q_partV_eq_2, q_vLoad_eq_2, q_vBuild_eq_1, q_vBuild_eq_2, q_rowV_eq_1, q_ofRow_eq_2, q_pureRow_eq_1, q_pureRow_eq_2, q_V_cells_eq_1, q_splice_eq_1, q_nlApp_eq_2, q_vRow_eq_2, q_vLits_eq_1, q_vLits_eq_2, q_bsK_eq_1, q_srcO_eq_1, q_srcV_eq_2, q_appK_eq_1, q_appendK_eq_1, q_mapT_eq_1, q_mapT_eq_2, q_mapO_eq_1, q_mapO_eq_2, q_delO_eq_1, q_delO_eq_2, q_freeB_eq_1, q_freeT_eq_1, q_freeT_eq_2, q_freeO_eq_1, q_freeO_eq_2, q_V_noRef_eq_1, q_V_noRef_eq_2, q_K_noRef_eq_1, q_K_noRef_eq_2, q_K_noRef_eq_5, q_O_noRef_eq_2, q_V_scrub_eq_1, q_V_scrub_eq_3, q_K_scrub_eq_1, q_K_scrub_eq_5, q_O_scrub_eq_2, q_Option_map_some, q_List_map_cons, q_List_map_nil, q_List_take_succ_cons, q_List_take_zero, q_List_drop_succ_cons, q_List_drop_zero, q_List_nil_append, q_List_cons_append, q_List_foldl_cons, q_List_foldl_nil, q_List_replicate_succ, q_List_replicate_zero, q_List_set_cons_zero, q_List_length_cons, q_List_length_nil, q_List_getD_cons_zero, true_and, if_true, if_false, forall_eq, or_false, and_self, bne_iff_ne, ne_eq, Bool.and_eq_true, Bool.and_true, Bool.true_and, Bool.or_true, Bool.false_or, List.append_nil, List.mem_cons, Nat.reduceAdd, Nat.reduceEqDiff, Nat.reduceLeDiff, Nat.reduceLT, Nat.reduceBEq, Nat.zero_add, Int.toNat_natCast, Nat.le_refl, Int.natCast_nonneg, q_learn_eq_1, not_false_eq_true, q_condK_eq_1, q_condB_eq_1, decide_true, r_vLen_lst, r_vIaddr_lst, ints_len, List.length_map, lookT_here, lookT_next, lookO_here, lookO_next, List.not_mem_nil, uf43r3, uf43r4, uf43r5, uf43b6, uf43r7, uf43b8, uf43b9, uf43r10, uf43b11, uf43b12, uf43b13, uf43b14, uf43r15, uf43b16, uf43b17]
      exact ⟨by omega, by omega, Next.intro (i + 1) rfl rfl (by omega) (by omega)⟩
    · have c2 : ¬ (i : Int) < l.length := by omega
      have e : l.getD i 0 = 0 := by simp [List.getD_eq_getElem?_getD, List.getElem?_eq_none (Nat.le_of_not_lt hil)]
      rw [e] at hs
      simp only [c1, c2, c4, ints_len, List.length_map, hle, hs, q_wpLs_eq_1, q_wpLs_eq_2, q_wpL_eq_1, q_exL_eq_1, q_exL_eq_6, q_exL_eq_7, q_exL_eq_11, q_exL_eq_30, q_exL_eq_33, q_look_eq_1, q_look_eq_2, q_insT_eq_1, q_insO_eq_1, q_awl_eq_1, q_awl_eq_2, q_awl_eq_5, q_awl_eq_6, q_awl_eq_7, q_AE_thenL_eq_1, q_AE_inBlockL_eq_1, q_putK_eq_1, q_vBin_eq_1, q_resV_eq_1, q_binV_eq_1, q_binInt_eq_3, q_cutInt_eq_1, q_cutInt_eq_8, q_vBuild_eq_1, q_vBuild_eq_2, q_rowV_eq_1, q_ofRow_eq_2, q_pureRow_eq_1, q_pureRow_eq_2, q_V_cells_eq_1, q_splice_eq_1, q_nlApp_eq_2, q_vRow_eq_2, q_vLits_eq_1, q_vLits_eq_2, q_bsK_eq_1, q_srcO_eq_1, q_srcV_eq_2, q_appK_eq_1, q_appendK_eq_1, q_mapT_eq_1, q_mapT_eq_2, q_mapO_eq_1, q_mapO_eq_2, q_delO_eq_1, q_delO_eq_2, q_freeB_eq_1, q_freeT_eq_1, q_freeT_eq_2, q_freeO_eq_1, q_freeO_eq_2, q_V_noRef_eq_1, q_V_noRef_eq_2, q_K_noRef_eq_1, q_K_noRef_eq_2, q_O_noRef_eq_2, q_V_scrub_eq_1, q_V_scrub_eq_3, q_K_scrub_eq_1, q_K_scrub_eq_5, q_O_scrub_eq_2, q_Option_map_some, q_List_map_cons, q_List_map_nil, q_List_take_succ_cons, q_List_take_zero, q_List_drop_succ_cons, q_List_drop_zero, q_List_nil_append, q_List_cons_append, q_List_foldl_cons, q_List_foldl_nil, q_List_replicate_succ, q_List_replicate_zero, q_List_set_cons_zero, q_List_length_cons, q_List_length_nil, true_and, if_true, if_false, forall_eq, or_false, and_self, bne_iff_ne, ne_eq, Bool.and_eq_true, Bool.and_true, Bool.true_and, Bool.or_true, Bool.false_or, List.append_nil, List.mem_cons, Nat.reduceAdd, Nat.reduceEqDiff, Nat.reduceLeDiff, Nat.reduceLT, Nat.reduceBEq, Nat.zero_add, Nat.le_refl, q_learn_eq_1, not_false_eq_true, q_condK_eq_1, q_condB_eq_1, q_condB_eq_2, decide_true, decide_false, r_vLen_lst, ints_len, List.length_map, lookT_here, lookT_next, lookO_here, lookO_next, List.not_mem_nil, uf43r3, uf43r4, uf43r5, uf43b6, uf43r7, uf43b8, uf43b9, uf43r10, uf43b11, uf43b12, uf43b13, uf43b14, uf43r15, uf43b16, uf43b17]
      exact ⟨by omega, by omega, Next.intro (i + 1) rfl rfl (by omega) (by omega)⟩
  · have c1 : ¬ (i : Int) < 20 := by omega
    obtain rfl : i = 20 := by omega
    simp only [c1, q_wpLs_eq_1, q_wpLs_eq_2, q_wpL_eq_1, q_exL_eq_1, q_exL_eq_11, q_look_eq_1, q_look_eq_2, q_insT_eq_1, q_awl_eq_2, q_awl_eq_5, q_awl_eq_6, q_awl_eq_9, q_awl_eq_10, q_AE_thenL_eq_1, q_AE_thenL_eq_2, q_AE_inBlockL_eq_2, q_putK_eq_1, q_vBin_eq_1, q_resV_eq_1, q_binV_eq_1, q_binInt_eq_3, q_cutInt_eq_8, q_isArrO_eq_1, q_mapT_eq_1, q_mapT_eq_2, q_mapO_eq_1, q_mapO_eq_2, q_endK_eq_2, q_endL_eq_1, q_endV_eq_1, q_resL_eq_1, q_resL_eq_2, q_resX_eq_1, q_one_eq_1, q_V_nrm_eq_1, q_K_nrm_eq_1, q_K_nrm_eq_3, q_O_nrm_eq_2, q_V_owns_eq_1, q_K_owns_eq_1, q_V_toNew_eq_1, q_K_toNew_eq_2, q_C_norm_eq_4, q_C_norm_eq_5, true_and, if_true, and_self, List.nodup_nil, List.nodup_cons, Nat.reduceBEq, q_learn_eq_1, not_false_eq_true, q_condK_eq_1, q_condB_eq_2, decide_false, norm_lst, normRows_Ce, normRows_ints, lookT_here, lookT_next, Int.reduceLT, Int.cast_ofNat_Int, lookO_here, List.not_mem_nil, uf43r1, uf43b2, uf43b14, uf43r15, uf43b16, uf43b17]
    exact hS
theorem wt_range {t : Term} {k : Int} (h : WT t k) : ∀ v, used t v = true → 0 ≤ v ∧ v < 20 := by
  induction h with
  | int => intro v hv; rw [used_op (by omega), usedL_any] at hv; simp at hv
  | bool => intro v hv; rw [used_op (by omega), usedL_any] at hv; simp at hv
  | var n h0 h20 => intro v hv; rw [used_eq] at hv; simp [Term.op, Term.n] at hv; have hv := of_decide_eq_true hv; subst hv; exact ⟨h0, h20⟩
  | not a _ ih => intro v hv; rw [used_op (by omega), usedL_any] at hv; simp at hv; exact ih v hv
  | andor o a b ho _ _ iha ihb => intro v hv; rw [used_op (by omega), usedL_any] at hv; simp at hv; exact hv.elim (iha v) (ihb v)
  | ite a b c k _ _ _ iha ihb ihc => intro v hv; rw [used_op (by omega), usedL_any] at hv; simp at hv; exact hv.elim (iha v) (fun h => h.elim (ihb v) (ihc v))
  | less a b _ _ iha ihb => intro v hv; rw [used_op (by omega), usedL_any] at hv; simp at hv; exact hv.elim (iha v) (ihb v)
  | eq a b k _ _ iha ihb => intro v hv; rw [used_op (by omega), usedL_any] at hv; simp at hv; exact hv.elim (iha v) (ihb v)
  | ar o a b h9 _ _ _ iha ihb => intro v hv; rw [used_op (by omega), usedL_any] at hv; simp at hv; exact hv.elim (iha v) (ihb v)
end Go.Abs


set_option maxRecDepth 100000
set_option maxHeartbeats 4000000
namespace Go.Abs
open Go.Proofs
theorem blind_sub {o : Order} (ok : OkO o) : (o.rules.map (·.ask)).filter (fun q => hasI (blindO o) q) = blindO o := by
  refine asc_ext _ _ ((rls_asc _ _ ok.rls).filter _) ((upto_asc 22).filter _) fun x => ?_
  rw [List.mem_filter, mem_hasI]
  constructor
  · exact fun h => h.2
  · intro h
    refine ⟨?_, h⟩
    unfold blindO at h
    rw [List.mem_filter] at h
    have h2 := h.2
    simp only [Bool.and_eq_true, List.any_eq_true] at h2
    obtain ⟨_, r, hr, hq, _⟩ := h2
    exact List.mem_map.2 ⟨r, hr, of_decide_eq_true hq⟩
theorem not_blind {o : Order} (ok : OkO o) {r : Rule} (hr : r ∈ o.rules) (hp : plain r.ask = true) (hb : hasI (blindO o) r.ask = false) : ∀ v, used r.term v = true → 0 ≤ v ∧ v < 15 := by
  obtain ⟨hck, hwt⟩ := ok.wt hr
  intro v hv
  have hrange := wt_range hwt v hv
  refine ⟨hrange.1, ?_⟩
  apply Classical.byContradiction
  intro hge
  have hask := ok.ask hr
  have : hasI (blindO o) r.ask = true := by
    rw [mem_hasI]
    unfold blindO
    rw [List.mem_filter, mem_upto]
    refine ⟨by omega, ?_⟩
    simp only [Bool.and_eq_true, List.any_eq_true]
    refine ⟨hp, r, hr, by simp, v, ?_, by simp; omega⟩
    unfold varsT
    rw [if_neg (by simp [hck]), List.mem_filter, mem_upto]
    exact ⟨by omega, hv⟩
  rw [this] at hb; cases hb
theorem knownC_take (l : List Int) {v : Int} (h0 : 0 ≤ v) (h15 : v < 15) : (valueC v ((knownC l 20).take 15)).known = true := by
  have hl : ((knownC l 20).take 15).length = 15 := by simp [knownC]
  have hlt : v.toNat < ((knownC l 20).take 15).length := by omega
  have hk : (((knownC l 20).take 15).getD v.toNat ⟨false, 0⟩).known = true := by
    rw [List.getD_eq_getElem?_getD, List.getElem?_eq_getElem hlt]
    simp [knownC]
  unfold valueC
  rw [if_neg (by omega), hk]
  simp only [Bool.true_eq_false, if_false]
  (repeat' split) <;> rfl
theorem hasI_take {l : List Int} {i : Nat} (h : i < l.length) (v : Int) : hasI (l.take (i + 1)) v = (hasI (l.take i) v || decide (l[i] = v)) := by
  unfold hasI
  rw [List.take_add_one, List.getElem?_eq_getElem h, List.any_append]; simp
def cntB (o : Order) (i : Nat) : Nat := (((o.rules.take i).map (·.ask)).filter (fun q => hasI (blindO o) q)).length
theorem cntB_succ {o : Order} {i : Nat} (h : i < o.rules.length) : cntB o (i + 1) = if hasI (blindO o) o.rules[i].ask = true then cntB o i + 1 else cntB o i := by
  unfold cntB
  rw [List.take_add_one, List.getElem?_eq_getElem h, List.map_append, List.filter_append, List.length_append]
  simp only [Option.toList_some, List.map_cons, List.map_nil]
  by_cases hb : hasI (blindO o) o.rules[i].ask = true
  · simp [hb]
  · simp [hb]
theorem cntB_le (o : Order) (i : Nat) : cntB o i ≤ i := by
  unfold cntB
  refine Nat.le_trans (List.length_filter_le _ _) ?_
  simp; omega
theorem cntB_all {o : Order} (ok : OkO o) : cntB o o.rules.length = (blindO o).length := by
  unfold cntB
  rw [List.take_length, blind_sub ok]
theorem k13 (o : Order) (values : List Int) : Spec Try.prog 13 [.agg (encOrder o), lst 1 (ints values)] (fun r => r = .bool true) := by
  refine Spec.of_len hf13 fun hlen => ?_
  have hl := len_rules (o := o) List.mem_cons_self hlen
  clear hlen
  obtain ⟨hl1, hl2⟩ := hl
  refine Spec.of_awlS hf13 okf13 (by simp) fun S hS => ?_
  simp only [q_wpLs_eq_1, q_wpLs_eq_2, q_wpL_eq_1, q_exL_eq_1, q_exL_eq_5, q_exL_eq_28, q_look_eq_1, q_look_eq_2, q_insT_eq_1, q_insO_eq_1, q_awl_eq_2, q_awl_eq_5, q_AE_thenL_eq_1, q_initT_eq_1, q_initT_eq_2, q_boxK_eq_1, q_freeB_eq_1, q_freeT_eq_1, q_freeT_eq_2, q_freeO_eq_1, q_V_noRef_eq_1, q_V_noRef_eq_2, q_K_noRef_eq_1, q_List_map_nil, true_and, Bool.and_true, Bool.or_true, Nat.reduceAdd, Nat.reduceBEq, Nat.zero_add, lookT_here, uf13, uf13r56, uf13b57, uf13r58, uf13b59]
  refine call_s s14 ?_
  simp only [q_wpLs_eq_1, q_wpLs_eq_2, q_wpL_eq_1, q_exL_eq_1, q_exL_eq_8, q_exL_eq_28, q_look_eq_1, q_insT_eq_1, q_awl_eq_2, q_awl_eq_5, q_AE_thenL_eq_1, q_putK_eq_1, q_loadO_eq_1, q_isV_eq_1, q_vLoad_eq_1, q_List_map_cons, q_List_map_nil, q_List_drop_zero, true_and, Nat.reduceBEq, Nat.zero_add, Nat.le_refl, List.length_map, r_ofRow_take, encOrder_len, lookT_here, lookT_next, lookO_here, uf13r53, uf13b54, uf13b55]
  refine call_s (s15 o) ?_
  cases h1 : fewO o
  · simp only [h1, q_wpLs_eq_1, q_wpLs_eq_2, q_wpL_eq_1, q_putDL_eq_1, q_AOp_dst_eq_8, q_AOp_dst_eq_10, q_AOp_dst_eq_32, q_exL_eq_1, q_exL_eq_3, q_exL_eq_15, q_look_eq_1, q_look_eq_2, q_insT_eq_1, q_awl_eq_2, q_awl_eq_5, q_awl_eq_6, q_awl_eq_10, q_AE_thenL_eq_1, q_AE_thenL_eq_3, q_putK_eq_1, q_vUn_eq_1, q_unV_eq_2, q_mapC_eq_1, q_vPick_eq_2, q_mapT_eq_1, q_mapT_eq_2, q_mapO_eq_1, q_mapO_eq_2, q_endK_eq_2, q_endL_eq_1, q_endV_eq_1, q_resL_eq_1, q_resL_eq_2, q_resX_eq_1, q_one_eq_1, q_V_nrm_eq_1, q_V_nrm_eq_2, q_V_nrm_eq_5, q_K_nrm_eq_1, q_K_nrm_eq_3, q_O_nrm_eq_1, q_V_owns_eq_1, q_K_owns_eq_2, q_V_toNew_eq_1, q_K_toNew_eq_1, q_C_norm_eq_5, q_Bool_not_false, true_and, and_self, List.nodup_nil, Nat.reduceBEq, q_learn_eq_1, q_guardP_eq_2, q_condK_eq_1, q_condB_eq_1, norm_lst, normRows_ints, encOrder_norm, lookT_here, lookT_next, r_map_nrm, uf13r50, uf13b51, uf13b52]
    exact hS
  simp only [h1, q_wpLs_eq_2, q_wpL_eq_1, q_AOp_dst_eq_8, q_AOp_dst_eq_32, q_exL_eq_1, q_exL_eq_8, q_exL_eq_15, q_exL_eq_28, q_look_eq_1, q_insT_eq_1, q_putK_eq_1, q_vUn_eq_1, q_unV_eq_2, q_mapC_eq_1, q_loadO_eq_1, q_isV_eq_1, q_vLoad_eq_1, q_Bool_not_true, q_Bool_not_false, q_List_map_cons, q_List_map_nil, q_List_drop_zero, true_and, Nat.reduceBEq, Nat.zero_add, Nat.le_refl, q_guardP_eq_2, q_condB_eq_2, q_exK_eq_1, List.length_map, r_ofRow_take, encOrder_len, lookT_here, lookT_next, lookO_here]
  refine call_s (s20 o) ?_
  by_cases hc' : ¬ checkO o = 0
  · simp only [hc', q_wpLs_eq_1, q_wpLs_eq_2, q_wpL_eq_1, q_AOp_dst_eq_10, q_exL_eq_1, q_exL_eq_3, q_exL_eq_11, q_exL_eq_28, q_look_eq_1, q_look_eq_2, q_insT_eq_1, q_awl_eq_1, q_awl_eq_2, q_awl_eq_5, q_awl_eq_6, q_awl_eq_10, q_AE_thenL_eq_1, q_AE_thenL_eq_3, q_putK_eq_1, q_vBin_eq_1, q_resV_eq_1, q_binV_eq_1, q_binInt_eq_3, q_cutInt_eq_7, q_vPick_eq_1, q_mapT_eq_1, q_mapT_eq_2, q_mapO_eq_1, q_mapO_eq_2, q_endK_eq_2, q_endL_eq_1, q_endV_eq_1, q_resL_eq_1, q_resL_eq_2, q_resX_eq_1, q_one_eq_1, q_V_nrm_eq_1, q_V_nrm_eq_2, q_K_nrm_eq_1, q_K_nrm_eq_3, q_O_nrm_eq_1, q_V_owns_eq_1, q_K_owns_eq_2, q_V_toNew_eq_1, q_K_toNew_eq_1, q_C_norm_eq_4, q_C_norm_eq_5, q_Bool_not_false, q_List_map_cons, q_List_map_nil, true_and, and_true, if_true, if_false, Bool.false_eq_true, false_implies, forall_const, and_self, List.nodup_nil, Nat.reduceBEq, q_learn_eq_1, not_false_eq_true, q_guardP_eq_2, q_condK_eq_1, q_condB_eq_2, q_exK_eq_1, condB_bne, norm_lst, normRows_ints, encOrder_norm, lookT_here, lookT_next, r_map_nrm, uf13r48, uf13b49, uf13r50, uf13b51, uf13b52]
    exact hS
  have hc : checkO o = 0 := Decidable.not_not.1 hc'
  have ok := checkO_ok hc
  have h60 := few_60 h1
  simp only [hc, q_wpLs_eq_1, q_wpLs_eq_2, q_wpL_eq_1, q_AOp_dst_eq_10, q_exL_eq_1, q_exL_eq_3, q_exL_eq_11, q_exL_eq_28, q_look_eq_1, q_look_eq_2, q_insT_eq_1, q_awl_eq_1, q_awl_eq_2, q_awl_eq_5, q_awl_eq_6, q_AE_thenL_eq_1, q_putK_eq_1, q_vBin_eq_1, q_resV_eq_1, q_binV_eq_1, q_binInt_eq_3, q_cutInt_eq_7, q_vPick_eq_1, q_Bool_not_false, q_List_map_cons, q_List_map_nil, true_and, if_true, if_false, Bool.false_eq_true, Nat.reduceBEq, q_learn_eq_1, q_guardP_eq_2, q_condK_eq_1, q_condB_eq_2, q_exK_eq_1, lookT_here, lookT_next, Int.reduceBNe, uf13r48, uf13b49, uf13b52]
  refine call_l (s43 values) ?_
  simp only [q_wpLs_eq_1, q_wpLs_eq_2, q_wpL_eq_1, q_exL_eq_1, q_exL_eq_8, q_exL_eq_28, q_look_eq_1, q_insT_eq_1, q_insO_eq_1, q_awl_eq_2, q_awl_eq_5, q_AE_thenL_eq_1, q_putK_eq_1, q_loadO_eq_1, q_isV_eq_1, q_vLoad_eq_1, q_mapT_eq_1, q_mapT_eq_2, q_mapO_eq_1, q_mapO_eq_2, q_delO_eq_1, q_delO_eq_2, q_List_map_cons, q_List_map_nil, q_List_drop_zero, true_and, if_true, if_false, Nat.reduceEqDiff, Nat.reduceBEq, Nat.zero_add, Nat.le_refl, List.length_map, r_ofRow_take, encOrder_len, lookT_here, lookT_next, lookO_here, z_V_k, z_V_agg, z_K_c, z_O_var, z_frzT, z_frzO, r_map_frz, q_awl_eq_14, z_K_own_arr, z_K_ptr_arr, uf13r46, uf13b47]
  refine call_l (s27 o h60) ?_
  simp only [q_wpLs_eq_1, q_wpLs_eq_2, q_wpL_eq_1, q_exL_eq_1, q_look_eq_1, q_look_eq_2, q_insT_eq_1, q_insO_eq_1, q_awl_eq_2, q_awl_eq_5, q_awl_eq_7, q_AE_thenL_eq_1, lookT_here, uf13b40, uf13r41, uf13b42, uf13b43, uf13r44, uf13b45]
  have hcnt := cntB_all ok
  have hb22 : (blindO o).length ≤ 22 := Nat.le_trans (List.length_filter_le _ _) (by simp [upto])
  rw [uf13l39]
  refine awl_loop (fun i : Nat => [(2, .k (.ptr 2 0)), (5, .bool true), (6, .list 2 none ((knownC values 20).map encCell)), (7, .k (.own 27)), (8, .int .i64 (cntB o i : Nat)), (9, .int .i64 i)])
    (fun _ => [(2, .var 25 (orV o)), (27, .arr 3 1 none (ints (blindO o)))]) (fun i => i ≤ o.rules.length) (fun i => o.rules.length - i) 0 rfl rfl (Nat.zero_le _) ?_
  intro i hi
  by_cases hlt : i < o.rules.length
  · have c1 : (i : Int) < o.rules.length := by omega
    have c4 : IntKind.i64.wrap ((i : Int) + 1) = (i : Int) + 1 := wrap_in (by omega) (by omega)
    have hm := List.getElem_mem hlt
    have hask := ok.ask hm
    obtain ⟨hck, hwt⟩ := ok.wt hm
    simp only [c1, map_at hlt, q_wpLs_eq_1, q_wpLs_eq_2, q_wpL_eq_1, q_exL_eq_1, q_exL_eq_8, q_exL_eq_11, q_exL_eq_21, q_exL_eq_23, q_exL_eq_30, q_look_eq_1, q_look_eq_2, q_insT_eq_1, q_awl_eq_1, q_awl_eq_2, q_awl_eq_5, q_awl_eq_6, q_awl_eq_7, q_AE_thenL_eq_1, q_putK_eq_1, q_vBin_eq_1, q_resV_eq_1, q_binV_eq_1, q_binInt_eq_3, q_cutInt_eq_8, q_vFaddr_eq_1, q_vFaddr_eq_3, q_partV_eq_2, q_loadO_eq_1, q_isV_eq_1, q_vLoad_eq_1, q_vLoad_eq_2, q_isVarO_eq_1, true_and, if_true, and_self, Nat.reduceAdd, Nat.reduceLeDiff, Nat.reduceBEq, Nat.zero_add, Nat.add_zero, Int.toNat_natCast, Nat.le_refl, Int.natCast_nonneg, q_learn_eq_1, q_condK_eq_1, q_condB_eq_1, decide_true, r_vLen_lst, r_vIaddr_lst, List.length_map, encOrder_len, lookT_here, lookT_next, lookO_here, g_rule0, f_or3, uf13r3, uf13b25, uf13r26, uf13b27, uf13b28, uf13r29, uf13b30, uf13r31, uf13b32, uf13b33, uf13b34, uf13b35, uf13r36, uf13b37, uf13b38]
    rw [uf13l24]
    refine awl_loop (fun k : Nat => [(2, .k (.ptr 2 0)), (5, .bool true), (6, .list 2 none ((knownC values 20).map encCell)), (7, .k (.own 27)), (8, .int .i64 (cntB o i : Nat)), (9, .int .i64 i), (10, .int .i64 o.rules[i].ask), (11, .bool (hasI ((blindO o).take k) o.rules[i].ask)), (12, .int .i64 k)])
      (fun _ => [(2, .var 25 (orV o)), (27, .arr 3 1 none (ints (blindO o)))]) (fun k => k ≤ (blindO o).length) (fun k => (blindO o).length - k) 0 rfl rfl (Nat.zero_le _) ?_
    intro k hk
    by_cases hkl : k < (blindO o).length
    · have d1 : (k : Int) < (blindO o).length := by omega
      have d4 : IntKind.i64.wrap ((k : Int) + 1) = (k : Int) + 1 := wrap_in (by omega) (by omega)
      have hh := hasI_take hkl o.rules[i].ask
      cases hb : hasI ((blindO o).take k) o.rules[i].ask
      · rw [hb, Bool.false_or] at hh
        have e : ((blindO o)[k] == o.rules[i].ask) = hasI ((blindO o).take (k + 1)) o.rules[i].ask := by rw [hh]; exact beq_dec _ _
        simp only [d1, d4, hb, e, ints_at hkl, ints_len, q_wpLs_eq_1, q_wpLs_eq_2, q_wpL_eq_1, q_AOp_dst_eq_1, q_AOp_dst_eq_8, q_AOp_dst_eq_10, q_AOp_dst_eq_22, q_exL_eq_1, q_exL_eq_3, q_exL_eq_8, q_exL_eq_11, q_exL_eq_23, q_exL_eq_30, q_look_eq_1, q_look_eq_2, q_insT_eq_1, q_awl_eq_1, q_awl_eq_2, q_awl_eq_5, q_awl_eq_6, q_awl_eq_7, q_AE_thenL_eq_1, q_AE_inBlockL_eq_1, q_putK_eq_1, q_vBin_eq_1, q_resV_eq_1, q_binV_eq_1, q_binInt_eq_3, q_cutInt_eq_1, q_cutInt_eq_6, q_cutInt_eq_8, q_vLen_eq_2, q_lenO_eq_1, q_partV_eq_2, q_loadO_eq_2, q_isA_eq_1, q_vLoad_eq_3, q_vIaddr_eq_2, q_idxO_eq_1, q_vPick_eq_1, q_Bool_not_false, q_List_getD_cons_zero, true_and, if_true, if_false, Bool.false_eq_true, and_self, Nat.reduceBEq, Nat.zero_add, Int.toNat_natCast, Nat.le_refl, Int.natCast_nonneg, q_learn_eq_1, q_guardP_eq_2, q_condK_eq_1, q_condB_eq_1, q_condB_eq_2, q_exK_eq_1, decide_true, ints_len, lookT_here, lookT_next, lookO_here, lookO_next, uf13r16, uf13r17, uf13b18, uf13b19, uf13b20, uf13r21, uf13b22, uf13b23]
        exact Next.intro (k + 1) rfl rfl (by omega) (by omega)
      · rw [hb, Bool.true_or] at hh
        simp only [d1, d4, hb, ints_at hkl, ints_len, q_wpLs_eq_1, q_wpLs_eq_2, q_wpL_eq_1, q_putDL_eq_1, q_AOp_dst_eq_1, q_AOp_dst_eq_8, q_AOp_dst_eq_10, q_AOp_dst_eq_22, q_exL_eq_1, q_exL_eq_3, q_exL_eq_11, q_exL_eq_30, q_look_eq_1, q_look_eq_2, q_insT_eq_1, q_awl_eq_1, q_awl_eq_2, q_awl_eq_5, q_awl_eq_6, q_awl_eq_7, q_AE_thenL_eq_1, q_AE_inBlockL_eq_1, q_putK_eq_1, q_vBin_eq_1, q_resV_eq_1, q_binV_eq_1, q_binInt_eq_3, q_cutInt_eq_1, q_cutInt_eq_8, q_vLen_eq_2, q_lenO_eq_1, q_vPick_eq_2, q_Bool_not_false, true_and, if_true, Nat.reduceBEq, q_learn_eq_1, q_guardP_eq_2, q_condK_eq_1, q_condB_eq_1, decide_true, ints_len, lookT_here, lookT_next, lookO_here, lookO_next, uf13r16, uf13r17, uf13b18, uf13b19, uf13b20, uf13r21, uf13b22, uf13b23]
        exact Next.intro (k + 1) (by rw [hh]; rfl) rfl (by omega) (by omega)
    · have d1 : ¬ (k : Int) < (blindO o).length := by omega
      obtain rfl : k = (blindO o).length := by omega
      rw [List.take_length]
      have hcs := cntB_succ hlt
      have hcl := cntB_le o i
      have w8 : IntKind.i64.wrap (((cntB o i : Nat) : Int) + 1) = ((cntB o i + 1 : Nat) : Int) := by rw [wrap_in (by omega) (by omega)]; omega
      cases hb : hasI (blindO o) o.rules[i].ask
      · rw [if_neg (by simp [hb])] at hcs
        by_cases hp : plain o.rules[i].ask = true
        · have hp' : o.rules[i].ask = 0 ∨ o.rules[i].ask = 6 ∨ o.rules[i].ask = 7 := of_decide_eq_true hp
          have hev : evalT o.rules[i].term ((knownC values 20).take 15) = eval o.rules[i].term ((knownC values 20).take 15) := by rw [evalT, if_neg (by simp [hck])]
          have hkn := eval_all (c := (knownC values 20).take 15) hwt (fun v hv => by obtain ⟨a, b⟩ := not_blind ok hm hp hb v hv; exact knownC_take values a b)
          obtain ⟨ck, cn, hcc⟩ : ∃ k n, eval o.rules[i].term ((knownC values 20).take 15) = Cell.mk k n := ⟨_, _, rfl⟩
          rw [hcc] at hev hkn
          simp only [] at hkn
          subst hkn
          have l20 : (knownC values 20).length = 20 := by simp [knownC]
          have s37' := s37 o.rules[i].term ((knownC values 20).take 15)
          rw [hev] at s37'
          have tk15 : List.take 15 ((knownC values 20).map encCell) = ((knownC values 20).take 15).map encCell := (List.map_take ..).symm
          rcases hp' with hp' | hp' | hp'
          all_goals simp only [c1, d1, c4, hb, hp', l20, tk15, map_at hlt, ints_len, List.length_map, q_wpLs_eq_1, q_wpLs_eq_2, q_wpLQs_eq_2, q_wpL_eq_1, q_wpLQ_eq_1, q_putDL_eq_1, q_AOp_dst_eq_1, q_AOp_dst_eq_3, q_AOp_dst_eq_8, q_AOp_dst_eq_10, q_AOp_dst_eq_14, q_AOp_dst_eq_18, q_AOp_dst_eq_20, q_AOp_dst_eq_22, q_AOp_dst_eq_32, q_exL_eq_1, q_exL_eq_3, q_exL_eq_11, q_exL_eq_30, q_exLQ_eq_1, q_exLQ_eq_3, q_exLQ_eq_9, q_exLQ_eq_16, q_exLQ_eq_20, q_exLQ_eq_22, q_exLQ_eq_24, q_exLQ_eq_29, q_look_eq_1, q_look_eq_2, q_insT_eq_1, q_awl_eq_1, q_awl_eq_2, q_awl_eq_3, q_awl_eq_5, q_awl_eq_6, q_awl_eq_9, q_AE_thenL_eq_1, q_AE_thenL_eq_2, q_AE_inBlockL_eq_2, q_putK_eq_1, q_vBin_eq_1, q_resV_eq_1, q_binV_eq_1, q_binInt_eq_3, q_cutInt_eq_6, q_cutInt_eq_8, q_vUn_eq_1, q_unV_eq_2, q_mapC_eq_1, q_vLen_eq_2, q_lenO_eq_1, q_vFaddr_eq_1, q_vFaddr_eq_3, q_partV_eq_1, q_loadO_eq_1, q_isV_eq_1, q_vLoad_eq_1, q_vLoad_eq_2, q_vPick_eq_1, q_vPick_eq_2, q_vPick_eq_3, q_vBound_eq_1, q_vBound_eq_2, q_cutL_eq_1, q_vSlice_eq_1, q_isVarO_eq_1, q_V_toks_eq_1, q_K_toks_eq_5, q_Bool_not_true, q_Bool_not_false, q_Option_map_some, q_Option_map_none, q_List_map_cons, q_List_map_nil, q_List_drop_zero, true_and, if_true, if_false, reduceCtorEq, Bool.false_eq_true, true_or, and_self, BEq.rfl, Nat.reduceAdd, Nat.reduceEqDiff, Nat.reduceBEq, Nat.succ_ne_self, Nat.zero_add, Int.toNat_natCast, Int.toNat_zero, Nat.le_refl, Int.natCast_nonneg, q_learn_eq_1, q_guardP_eq_1, q_guardP_eq_2, q_condK_eq_1, q_condB_eq_1, q_condB_eq_2, q_exK_eq_1, q_exKQ_eq_1, decide_false, r_vIaddr_lst, ints_len, List.length_map, encOrder_len, lookT_here, lookT_next, Int.reduceLE, Int.reduceToNat, Int.reduceBEq, Int.cast_ofNat_Int, lookO_here, lookO_next, g_rule1, f_or3, uf13r7, uf13b8, uf13r9, uf13b10, uf13r11, uf13b12, uf13r13, uf13b14, uf13b15, uf13b20, uf13r21, uf13b22, uf13b23]
          all_goals generalize (knownC values 20).take 15 = cs15 at s37' ⊢
          all_goals refine callQ_l s37' ?_
          all_goals simp only [encCV, encCell, V.fz, c4, q_wpLs_eq_1, q_wpLs_eq_2, q_wpLQs_eq_1, q_wpLQs_eq_2, q_wpL_eq_1, q_wpLQ_eq_1, q_AOp_dst_eq_3, q_AOp_dst_eq_14, q_AOp_dst_eq_21, q_exL_eq_1, q_exL_eq_11, q_exLQ_eq_3, q_exLQ_eq_16, q_exLQ_eq_23, q_look_eq_1, q_look_eq_2, q_insT_eq_1, q_awl_eq_1, q_awl_eq_2, q_awl_eq_6, q_AE_thenL_eq_1, q_AE_inBlockL_eq_1, q_putK_eq_1, q_vBin_eq_1, q_resV_eq_1, q_binV_eq_1, q_binInt_eq_3, q_cutInt_eq_1, q_vUn_eq_1, q_unV_eq_2, q_mapC_eq_1, q_vField_eq_1, q_vPick_eq_1, q_ofRow_eq_1, q_pureRow_eq_1, q_pureRow_eq_2, q_V_fz_eq_2, q_Bool_not_true, q_Bool_not_false, q_Option_map_some, q_List_map_cons, q_List_map_nil, q_List_take_succ_cons, q_List_take_zero, q_List_drop_zero, q_List_length_cons, q_List_length_nil, true_and, if_true, if_false, Bool.false_eq_true, Nat.reduceAdd, Nat.reduceLeDiff, Nat.reduceBEq, Nat.zero_add, q_learn_eq_1, q_guardP_eq_1, q_guardP_eq_2, q_condK_eq_1, q_condB_eq_1, q_condB_eq_2, q_exKQ_eq_1, lookT_here, lookT_next, uf13b6]
          all_goals exact Next.intro (i + 1) (by rw [hcs]; rfl) rfl (by omega) (by omega)
        · have hp' : ¬ (o.rules[i].ask = 0 ∨ o.rules[i].ask = 6 ∨ o.rules[i].ask = 7) := fun h => hp (decide_eq_true h)
          simp only [not_or] at hp'
          simp only [c1, d1, c4, hb, hp'.1, hp'.2.1, hp'.2.2, map_at hlt, ints_len, q_wpLs_eq_1, q_wpLs_eq_2, q_wpLQs_eq_1, q_wpLQs_eq_2, q_wpL_eq_1, q_wpLQ_eq_1, q_putDL_eq_1, q_AOp_dst_eq_1, q_AOp_dst_eq_3, q_AOp_dst_eq_8, q_AOp_dst_eq_10, q_AOp_dst_eq_14, q_AOp_dst_eq_18, q_AOp_dst_eq_20, q_AOp_dst_eq_21, q_AOp_dst_eq_22, q_AOp_dst_eq_32, q_exL_eq_1, q_exL_eq_3, q_exL_eq_11, q_exL_eq_30, q_exLQ_eq_1, q_exLQ_eq_3, q_exLQ_eq_9, q_exLQ_eq_16, q_exLQ_eq_20, q_exLQ_eq_22, q_exLQ_eq_24, q_exLQ_eq_29, q_look_eq_1, q_look_eq_2, q_insT_eq_1, q_awl_eq_1, q_awl_eq_2, q_awl_eq_3, q_awl_eq_5, q_awl_eq_6, q_awl_eq_9, q_AE_thenL_eq_1, q_AE_thenL_eq_2, q_AE_inBlockL_eq_1, q_AE_inBlockL_eq_2, q_putK_eq_1, q_vBin_eq_1, q_resV_eq_1, q_binV_eq_1, q_binInt_eq_3, q_cutInt_eq_1, q_cutInt_eq_6, q_cutInt_eq_8, q_vUn_eq_1, q_unV_eq_2, q_mapC_eq_1, q_vLen_eq_2, q_lenO_eq_1, q_vFaddr_eq_1, q_vFaddr_eq_3, q_partV_eq_1, q_loadO_eq_1, q_isV_eq_1, q_vLoad_eq_1, q_vLoad_eq_2, q_vPick_eq_1, q_vPick_eq_2, q_vPick_eq_3, q_vBound_eq_1, q_vBound_eq_2, q_cutL_eq_1, q_vSlice_eq_1, q_isVarO_eq_1, q_V_toks_eq_1, q_K_toks_eq_5, q_Bool_not_true, q_Bool_not_false, q_Option_map_some, q_Option_map_none, q_List_map_cons, q_List_map_nil, q_List_drop_zero, true_and, and_true, if_true, if_false, reduceCtorEq, Bool.false_eq_true, false_implies, forall_const, true_or, and_self, Nat.reduceAdd, Nat.reduceEqDiff, Nat.reduceBEq, Nat.succ_ne_self, Nat.zero_add, Int.toNat_natCast, Int.toNat_zero, Nat.le_refl, Int.natCast_nonneg, q_learn_eq_1, not_false_eq_true, q_guardP_eq_1, q_guardP_eq_2, q_condK_eq_1, q_condB_eq_1, q_condB_eq_2, q_exK_eq_1, q_exKQ_eq_1, condB_beq, decide_false, r_vIaddr_lst, ints_len, List.length_map, encOrder_len, lookT_here, lookT_next, Int.reduceLE, Int.reduceToNat, lookO_here, lookO_next, g_rule1, f_or3, uf13b6, uf13r7, uf13b8, uf13r9, uf13b10, uf13r11, uf13b12, uf13r13, uf13b14, uf13b15, uf13b20, uf13r21, uf13b22, uf13b23]
          exact Next.intro (i + 1) (by rw [hcs]; rfl) rfl (by omega) (by omega)
      · rw [if_pos hb] at hcs
        have hp : plain o.rules[i].ask = true := by
          rw [mem_hasI] at hb
          unfold blindO at hb
          rw [List.mem_filter] at hb
          have := hb.2
          simp only [Bool.and_eq_true] at this
          exact this.1
        have hp' : o.rules[i].ask = 0 ∨ o.rules[i].ask = 6 ∨ o.rules[i].ask = 7 := of_decide_eq_true hp
        rcases hp' with hp' | hp' | hp'
        all_goals simp only [c1, d1, c4, w8, hb, hp', map_at hlt, ints_len, q_wpLs_eq_1, q_wpLs_eq_2, q_wpLQs_eq_1, q_wpLQs_eq_2, q_wpL_eq_1, q_wpLQ_eq_1, q_putDL_eq_1, q_AOp_dst_eq_1, q_AOp_dst_eq_3, q_AOp_dst_eq_8, q_AOp_dst_eq_10, q_AOp_dst_eq_14, q_AOp_dst_eq_18, q_AOp_dst_eq_20, q_AOp_dst_eq_21, q_AOp_dst_eq_22, q_AOp_dst_eq_32, q_exL_eq_1, q_exL_eq_3, q_exL_eq_11, q_exL_eq_30, q_exLQ_eq_1, q_exLQ_eq_3, q_exLQ_eq_16, q_look_eq_1, q_look_eq_2, q_insT_eq_1, q_awl_eq_1, q_awl_eq_2, q_awl_eq_3, q_awl_eq_5, q_awl_eq_6, q_awl_eq_9, q_AE_thenL_eq_1, q_AE_thenL_eq_2, q_AE_inBlockL_eq_1, q_AE_inBlockL_eq_2, q_putK_eq_1, q_vBin_eq_1, q_resV_eq_1, q_binV_eq_1, q_binInt_eq_3, q_cutInt_eq_1, q_cutInt_eq_6, q_cutInt_eq_8, q_vUn_eq_1, q_unV_eq_2, q_mapC_eq_1, q_vLen_eq_2, q_lenO_eq_1, q_vPick_eq_1, q_vPick_eq_2, q_vPick_eq_3, q_Bool_not_true, q_Bool_not_false, true_and, if_true, if_false, reduceCtorEq, Bool.false_eq_true, BEq.rfl, Nat.reduceBEq, Nat.succ_ne_self, q_learn_eq_1, q_guardP_eq_1, q_guardP_eq_2, q_condK_eq_1, q_condB_eq_1, q_condB_eq_2, q_exK_eq_1, q_exKQ_eq_1, decide_false, ints_len, lookT_here, lookT_next, Int.reduceBEq, lookO_here, lookO_next, uf13b6, uf13r7, uf13b8, uf13r9, uf13b10, uf13r11, uf13b12, uf13r13, uf13b14, uf13b15, uf13b20, uf13r21, uf13b22, uf13b23]
        all_goals exact Next.intro (i + 1) (by rw [hcs]; rfl) rfl (by omega) (by omega)
  · have c1 : ¬ (i : Int) < o.rules.length := by omega
    obtain rfl : i = o.rules.length := by omega
    rw [hcnt]
    simp only [c1, ints_len, List.length_map, q_wpLs_eq_1, q_wpLs_eq_2, q_wpL_eq_1, q_AOp_dst_eq_1, q_AOp_dst_eq_10, q_AOp_dst_eq_27, q_exL_eq_1, q_exL_eq_3, q_exL_eq_8, q_exL_eq_11, q_exL_eq_21, q_exL_eq_30, q_look_eq_1, q_look_eq_2, q_insT_eq_1, q_awl_eq_2, q_awl_eq_5, q_awl_eq_6, q_awl_eq_9, q_awl_eq_10, q_AE_thenL_eq_1, q_AE_thenL_eq_2, q_AE_inBlockL_eq_2, q_putK_eq_1, q_vBin_eq_1, q_resV_eq_1, q_binV_eq_1, q_binInt_eq_3, q_cutInt_eq_6, q_cutInt_eq_8, q_vLen_eq_2, q_lenO_eq_1, q_vFaddr_eq_1, q_loadO_eq_1, q_isV_eq_1, q_vLoad_eq_1, q_vPick_eq_1, q_isVarO_eq_1, q_mapT_eq_1, q_mapT_eq_2, q_mapO_eq_1, q_mapO_eq_2, q_endK_eq_2, q_endL_eq_1, q_endV_eq_1, q_resL_eq_1, q_resL_eq_2, q_resX_eq_1, q_one_eq_1, q_V_nrm_eq_1, q_K_nrm_eq_1, q_K_nrm_eq_3, q_O_nrm_eq_1, q_O_nrm_eq_2, q_V_owns_eq_1, q_K_owns_eq_2, q_V_toNew_eq_1, q_K_toNew_eq_1, q_C_norm_eq_1, q_C_norm_eq_4, q_C_norm_eq_5, q_Bool_not_true, true_and, if_true, and_self, BEq.rfl, List.nodup_nil, Nat.reduceAdd, Nat.reduceBEq, Nat.zero_add, Nat.le_refl, q_learn_eq_1, q_guardP_eq_1, q_condK_eq_1, q_condB_eq_1, q_condB_eq_2, q_exK_eq_1, decide_false, r_vLen_lst, norm_lst, normRows_R, normRows_Ce, normRows_ints, encOrder_norm, ints_len, List.length_map, encOrder_len, lookT_here, lookT_next, lookO_here, lookO_next, f_or3, r_map_nrm, uf13r1, uf13b2, uf13b35, uf13r36, uf13b37, uf13b38]
    exact hS
end Go.Abs


set_option maxRecDepth 100000
namespace Go.Proofs.Ytckobjgahmmkaaa
open Go.Abs Go.RowKit
theorem own : ownKnob Try.prog.godebug = none := by kernel_rfl
theorem kids : Kids Try.prog (· < Try.prog.types.size) := kids_rows (by kernel_rfl) (by kernel_rfl)
theorem full : ∀ t e, t < Try.prog.types.size → Try.prog.underlying t = some (.slice e) → 0 < Try.prog.cellsOf e := slices_full_of Try.prog (by kernel_rfl)
def plainTs : List TypeId := [3, 4, 9, 22, 23, 25, 36, 39, 41, 43, 45]
theorem plainTs_ok : plainT Try.prog plainTs = true := by kernel_rfl
theorem plainTs_lt : ∀ t ∈ plainTs, t < Try.prog.types.size := by
  have : plainTs.all (fun t => decide (t < Try.prog.types.size)) = true := by kernel_rfl
  simpa using this
theorem tt : TermTypes Try.prog 3 4 9 41 39 43 23 45 22 25 where
  i := Try.underlying3
  b := Try.underlying4
  s := Try.underlying9
  t := ⟨_, Try.underlying41, rfl⟩
  lt := ⟨Try.underlying39, by kernel_rfl⟩
  r := ⟨_, Try.underlying43, rfl⟩
  lr := ⟨Try.underlying23, by kernel_rfl⟩
  c := ⟨_, Try.underlying45, rfl⟩
  lc := ⟨Try.underlying22, by kernel_rfl⟩
  o := ⟨_, Try.underlying25, rfl⟩
theorem spec13 (xs : List V) (h : ArgsOf Try.prog [25, 36] xs) : Go.Abs.Spec Try.prog 13 xs (fun r => r = .bool true) := by
  match xs, h with
  | [a0, a1], ⟨⟨_, _, h0, q0⟩, ⟨_, _, h1, q1⟩, _⟩ =>
    obtain ⟨x0, e0⟩ := arg_order tt h0
    obtain ⟨x1, e1⟩ := arg_ints Try.underlying36 tt.i (by kernel_rfl) h1
    rw [q0, q1, e0, e1]
    exact k13 x0 x1
theorem lifted13 (os : Os) (started : os.Started) (H : Type) (enc : TypeId × Value → H) :
    ReturnsInHanded {} Try.checked os 13 .any (Rows.checkBlindSpec.pre6 enc Try.prog Try.f13 Rows.checkBlindRow.domain false) (Rows.checkBlindSpec.post enc Try.prog Try.f13 Rows.checkBlindRow.apart Rows.checkBlindRow.fresh Rows.checkBlindRow.handsOn Rows.checkBlindRow.again) := by
  refine law_lifted (C := Try.checked) (T := plainTs) (tb := 4) own started (by kernel_rfl) Try.func13 ?_ plainTs_ok plainTs_lt ?_ kids full rfl ?_ ?_ Try.underlying4 ?_
  · exact ChangeSpec.witness6 (enc := enc) (C := Try.checked) false ⟨#[], #[.agg #[.string ⟨#[]⟩, .bool false, .slice none 0 0, .slice none 0 0], .slice none 0 0], []⟩ 8 (by kernel_rfl) (by kernel_rfl) (by kernel_rfl) (by kernel_rfl)
  · rw [Try.params13]; decide
  · intro ds hds
    rw [Try.params13] at hds
    match ds, hds with
    | [a0, a1], _ => rfl
  · kernel_rfl
  · intro xs hxs
    rw [Try.params13] at hxs
    exact spec13 xs hxs
theorem CheckBlind_holds : Rows.CheckBlindSaid :=
  OpenClaim.holds_of_wide 13 Try.f13 rfl rfl rfl rfl rfl rfl rfl ⟨rfl, rfl, rfl, rfl, rfl⟩ rfl rfl rfl rfl rfl (by kernel_rfl) Try.func13 (by kernel_rfl)
    (of_decide_eq_true (by kernel_rfl)) (by unfold Func.isWrapper; first | (rw [if_pos (by decide +kernel)]; kernel_rfl) | (rw [if_neg (by decide +kernel)]; exact ⟨rfl, rfl⟩))
    (fun os started H enc _ => lifted13 os started H enc)
end Go.Proofs.Ytckobjgahmmkaaa

