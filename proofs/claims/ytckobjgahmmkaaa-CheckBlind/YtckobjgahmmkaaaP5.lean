/- CheckBlind: for every order and every list of numbers the law returns true, and its arguments read as they did; no condition. -/
import Derived.Test.YtckobjgahmmkaaaP4
import Derived.Test.YtckobjgahmmkaaaProg
set_option linter.unusedVariables false
set_option linter.unusedSimpArgs false
set_option maxRecDepth 100000
set_option maxHeartbeats 4000000
namespace Go.Abs
open Go.Proofs
def encCV (c : Cell) : V := .agg (encCell c)
theorem s94 (b : Bool) : Spec Try.prog 94 [.bool b] (fun r => r = encCV (yes b)) := by
  refine Spec.of_awlS hf94 okf94 (by simp) fun S hS => ?_
  cases b <;> simp only [q_wpLs_eq_1, q_wpLs_eq_2, q_wpL_eq_1, q_exL_eq_1, q_exL_eq_4, q_exL_eq_6, q_exL_eq_9, q_look_eq_1, q_look_eq_2, q_insT_eq_1, q_insO_eq_1, q_awl_eq_1, q_awl_eq_2, q_awl_eq_5, q_awl_eq_6, q_awl_eq_10, q_AE_thenL_eq_1, q_AE_thenL_eq_3, q_initT_eq_1, q_initT_eq_2, q_putK_eq_1, q_vBuild_eq_1, q_vBuild_eq_2, q_rowV_eq_1, q_ofRow_eq_2, q_pureRow_eq_1, q_pureRow_eq_2, q_V_cells_eq_1, q_V_cells_eq_2, q_splice_eq_1, q_stVarK_eq_1, q_storeK_eq_1, q_mapT_eq_1, q_mapT_eq_2, q_mapO_eq_1, q_mapO_eq_2, q_freeB_eq_1, q_freeT_eq_1, q_freeT_eq_2, q_freeO_eq_1, q_V_noRef_eq_1, q_K_noRef_eq_1, q_endK_eq_2, q_endL_eq_1, q_endV_eq_1, q_resL_eq_1, q_resL_eq_2, q_resX_eq_2, q_resCell_eq_1, q_one_eq_1, q_V_nrm_eq_1, q_V_nrm_eq_2, q_K_nrm_eq_1, q_K_nrm_eq_3, q_O_nrm_eq_1, q_V_owns_eq_4, q_V_toNew_eq_2, q_C_norm_eq_4, q_C_norm_eq_5, q_C_normRow_eq_1, q_C_normRow_eq_2, q_Option_map_some, q_List_map_cons, q_List_map_nil, q_List_take_succ_cons, q_List_take_zero, q_List_drop_succ_cons, q_List_drop_zero, q_List_nil_append, q_List_cons_append, q_List_length_cons, q_List_length_nil, true_and, if_true, and_self, Bool.and_true, Bool.or_true, List.append_nil, List.nodup_nil, Nat.reduceAdd, Nat.reduceLeDiff, Nat.reduceLT, Nat.reduceBEq, Nat.zero_add, Nat.le_refl, q_learn_eq_1, q_condK_eq_1, q_condB_eq_1, q_condB_eq_2, lookT_here, lookT_next, lookO_here, uf94, uf94r1, uf94b2, uf94r3, uf94b4, uf94b5, uf94r6, uf94b7, uf94b8, uf94r9, uf94b10] <;> exact fin hS rfl
theorem encCV_eq {a b : Cell} (h : a = b) : encCV a = encCV b := by rw [h]
theorem fin_cell {S : V → Prop} {c : Cell} {k : Bool} {n : Int} (h : S (encCV c)) (e : Cell.mk k n = c) : S (.agg [.bool k, .int .i64 n]) := by subst e; exact h
theorem cell_at {l : List Cell} {i : Nat} (h : i < l.length) : (l.map encCell).getD i [] = [.bool l[i].known, .int .i64 l[i].n] := by simp [h, encCell]
def machV (l : List Cell) : V := .agg [lstC 2 (l.map encCell)]
theorem s76 (v : Int) (l : List Cell) (h0 : 0 ≤ v) (h20 : v < 20) : Spec Try.prog 76 [machV l, .int .i64 v] (fun r => r = encCV (valueC v l)) := by
  refine Spec.of_awlS hf76 okf76 (by simp [machV]) fun S hS => ?_
  have h1 : ¬ v < 0 := by omega
  by_cases h2 : v ≥ l.length
  · simp only [machV, h1, h2, q_wpLs_eq_1, q_wpLs_eq_2, q_wpL_eq_1, q_putDL_eq_1, q_AOp_dst_eq_1, q_AOp_dst_eq_8, q_AOp_dst_eq_14, q_AOp_dst_eq_20, q_AOp_dst_eq_22, q_exL_eq_1, q_exL_eq_3, q_exL_eq_4, q_exL_eq_5, q_exL_eq_6, q_exL_eq_8, q_exL_eq_9, q_exL_eq_11, q_exL_eq_21, q_exL_eq_30, q_look_eq_1, q_look_eq_2, q_insT_eq_1, q_insO_eq_1, q_awl_eq_2, q_awl_eq_5, q_awl_eq_6, q_awl_eq_10, q_AE_thenL_eq_1, q_AE_thenL_eq_3, q_initT_eq_1, q_initT_eq_2, q_putK_eq_1, q_vBin_eq_1, q_resV_eq_1, q_binV_eq_1, q_binInt_eq_3, q_cutInt_eq_11, q_vFaddr_eq_1, q_loadO_eq_1, q_isV_eq_1, q_vLoad_eq_1, q_vPick_eq_2, q_vBuild_eq_1, q_rowV_eq_1, q_ofRow_eq_1, q_ofRow_eq_2, q_pureRow_eq_1, q_pureRow_eq_2, q_V_cells_eq_2, q_splice_eq_1, q_isVarO_eq_1, q_boxK_eq_1, q_stVarK_eq_1, q_storeK_eq_1, q_mapT_eq_1, q_mapT_eq_2, q_mapO_eq_1, q_mapO_eq_2, q_freeB_eq_1, q_freeT_eq_1, q_freeT_eq_2, q_freeO_eq_1, q_freeO_eq_2, q_V_noRef_eq_1, q_V_noRef_eq_2, q_K_noRef_eq_1, q_K_noRef_eq_3, q_O_noRef_eq_1, q_endK_eq_2, q_endL_eq_1, q_endV_eq_1, q_resL_eq_1, q_resL_eq_2, q_resX_eq_2, q_resCell_eq_1, q_one_eq_1, q_V_nrm_eq_1, q_V_nrm_eq_2, q_V_nrm_eq_5, q_K_nrm_eq_1, q_K_nrm_eq_3, q_O_nrm_eq_1, q_V_owns_eq_4, q_V_toNew_eq_2, q_C_norm_eq_4, q_C_norm_eq_5, q_C_normRow_eq_1, q_C_normRow_eq_2, q_Bool_not_false, q_Option_map_some, q_List_map_cons, q_List_map_nil, q_List_take_succ_cons, q_List_take_zero, q_List_drop_succ_cons, q_List_drop_zero, q_List_nil_append, q_List_length_cons, q_List_length_nil, q_List_all_cons, q_List_all_nil, true_and, if_true, if_false, Bool.false_eq_true, and_self, bne_iff_ne, ne_eq, Bool.and_true, Bool.or_true, Bool.false_or, List.append_nil, List.nodup_nil, Nat.reduceAdd, Nat.reduceEqDiff, Nat.reduceLT, Nat.reduceBEq, Nat.zero_add, Nat.add_zero, Nat.le_refl, q_learn_eq_1, not_false_eq_true, q_guardP_eq_2, q_condK_eq_1, q_condB_eq_1, decide_true, r_vLen_lst, norm_lst, normRows_Ce, List.length_map, lookT_here, lookT_next, lookO_here, lookO_next, uf76, uf76r11, uf76b12, uf76b13, uf76r14, uf76b15, uf76b16, uf76r17, uf76b18]
    exact fin hS (encCV_eq (a := ⟨_, _⟩) (by simp [valueC, h2]))
  have h3 : v.toNat < l.length := by omega
  have h4 : v < l.length := by omega
  have h5 : 0 ≤ v := by omega
  obtain ⟨kn, n, hc⟩ : ∃ k n, l[v.toNat] = Cell.mk k n := ⟨_, _, rfl⟩
  have hv : valueC v l = if kn = false then ⟨false, 0⟩ else if (varType v).getD 0 = 0 then ⟨true, cut n⟩ else if n ≠ 0 then ⟨true, 1⟩ else ⟨true, 0⟩ := by
    simp only [valueC, h1, h2, or_self, if_false, List.getD_eq_getElem?_getD, List.getElem?_eq_getElem h3, Option.getD_some, hc]
  cases kn
  · simp only [machV, h1, h2, h4, h5, cell_at h3, hc, q_wpLs_eq_1, q_wpLs_eq_2, q_wpL_eq_1, q_AOp_dst_eq_1, q_AOp_dst_eq_8, q_AOp_dst_eq_14, q_AOp_dst_eq_20, q_AOp_dst_eq_22, q_exL_eq_1, q_exL_eq_3, q_exL_eq_4, q_exL_eq_5, q_exL_eq_6, q_exL_eq_8, q_exL_eq_9, q_exL_eq_11, q_exL_eq_15, q_exL_eq_21, q_exL_eq_23, q_exL_eq_30, q_look_eq_1, q_look_eq_2, q_insT_eq_1, q_insO_eq_1, q_awl_eq_2, q_awl_eq_5, q_awl_eq_6, q_awl_eq_10, q_AE_thenL_eq_1, q_AE_thenL_eq_3, q_initT_eq_1, q_initT_eq_2, q_putK_eq_1, q_vBin_eq_1, q_resV_eq_1, q_binV_eq_1, q_binInt_eq_3, q_cutInt_eq_11, q_vUn_eq_1, q_unV_eq_2, q_mapC_eq_1, q_vFaddr_eq_1, q_vFaddr_eq_3, q_partV_eq_2, q_loadO_eq_1, q_isV_eq_1, q_vLoad_eq_1, q_vLoad_eq_2, q_vPick_eq_1, q_vBuild_eq_1, q_rowV_eq_1, q_ofRow_eq_1, q_ofRow_eq_2, q_pureRow_eq_1, q_pureRow_eq_2, q_V_cells_eq_2, q_splice_eq_1, q_isVarO_eq_1, q_boxK_eq_1, q_stVarK_eq_1, q_storeK_eq_1, q_mapT_eq_1, q_mapT_eq_2, q_mapO_eq_1, q_mapO_eq_2, q_freeB_eq_1, q_freeT_eq_1, q_freeT_eq_2, q_freeO_eq_1, q_freeO_eq_2, q_V_noRef_eq_1, q_V_noRef_eq_2, q_K_noRef_eq_1, q_K_noRef_eq_3, q_O_noRef_eq_1, q_endK_eq_2, q_endL_eq_1, q_endV_eq_1, q_resL_eq_1, q_resL_eq_2, q_resX_eq_2, q_resCell_eq_1, q_one_eq_1, q_V_nrm_eq_1, q_V_nrm_eq_2, q_K_nrm_eq_1, q_K_nrm_eq_2, q_K_nrm_eq_3, q_O_nrm_eq_1, q_V_owns_eq_4, q_V_toNew_eq_2, q_C_norm_eq_4, q_C_norm_eq_5, q_C_normRow_eq_1, q_C_normRow_eq_2, q_Bool_not_false, q_Option_map_some, q_List_map_cons, q_List_map_nil, q_List_take_succ_cons, q_List_take_zero, q_List_drop_succ_cons, q_List_drop_zero, q_List_nil_append, q_List_length_cons, q_List_length_nil, q_List_getD_cons_zero, q_List_all_cons, q_List_all_nil, true_and, if_true, if_false, Bool.false_eq_true, and_self, bne_iff_ne, ne_eq, Bool.and_true, Bool.or_true, Bool.false_or, List.append_nil, List.nodup_nil, Nat.reduceAdd, Nat.reduceEqDiff, Nat.reduceLeDiff, Nat.reduceLT, Nat.reduceBEq, Nat.zero_add, Nat.add_zero, Nat.le_refl, q_learn_eq_1, not_false_eq_true, q_guardP_eq_2, q_condK_eq_1, q_condB_eq_1, q_condB_eq_2, q_exK_eq_1, decide_false, r_vLen_lst, r_vIaddr_lst, norm_lst, normRows_Ce, List.length_map, lookT_here, lookT_next, lookO_here, lookO_next, uf76, uf76r11, uf76b12, uf76b13, uf76r14, uf76b15, uf76b16, uf76r17, uf76b18]
    exact fin hS (encCV_eq (a := ⟨_, _⟩) (by rw [hv]; rfl))
  · simp only [machV, h1, h2, h4, h5, cell_at h3, hc, q_wpLs_eq_1, q_wpLs_eq_2, q_wpL_eq_1, q_AOp_dst_eq_1, q_AOp_dst_eq_8, q_AOp_dst_eq_14, q_AOp_dst_eq_20, q_AOp_dst_eq_22, q_exL_eq_1, q_exL_eq_3, q_exL_eq_4, q_exL_eq_5, q_exL_eq_8, q_exL_eq_11, q_exL_eq_15, q_exL_eq_21, q_exL_eq_23, q_exL_eq_28, q_exL_eq_30, q_look_eq_1, q_look_eq_2, q_insT_eq_1, q_insO_eq_1, q_awl_eq_1, q_awl_eq_2, q_awl_eq_5, q_awl_eq_6, q_AE_thenL_eq_1, q_initT_eq_1, q_initT_eq_2, q_putK_eq_1, q_vBin_eq_1, q_resV_eq_1, q_binV_eq_1, q_binInt_eq_3, q_cutInt_eq_11, q_vUn_eq_1, q_unV_eq_2, q_mapC_eq_1, q_vFaddr_eq_1, q_vFaddr_eq_3, q_partV_eq_2, q_loadO_eq_1, q_isV_eq_1, q_vLoad_eq_1, q_vLoad_eq_2, q_vPick_eq_1, q_ofRow_eq_1, q_pureRow_eq_1, q_pureRow_eq_2, q_isVarO_eq_1, q_boxK_eq_1, q_freeB_eq_1, q_freeT_eq_1, q_freeT_eq_2, q_freeO_eq_1, q_freeO_eq_2, q_V_noRef_eq_1, q_V_noRef_eq_2, q_K_noRef_eq_1, q_K_noRef_eq_3, q_O_noRef_eq_1, q_Bool_not_true, q_Bool_not_false, q_Option_map_some, q_List_map_cons, q_List_map_nil, q_List_take_succ_cons, q_List_take_zero, q_List_drop_zero, q_List_length_cons, q_List_length_nil, q_List_getD_cons_zero, q_List_all_cons, q_List_all_nil, true_and, if_true, if_false, Bool.false_eq_true, and_self, bne_iff_ne, ne_eq, Bool.and_true, Bool.or_true, Bool.false_or, Nat.reduceAdd, Nat.reduceEqDiff, Nat.reduceLeDiff, Nat.reduceBEq, Nat.zero_add, Nat.add_zero, Nat.le_refl, q_learn_eq_1, not_false_eq_true, q_guardP_eq_2, q_condK_eq_1, q_condB_eq_2, q_exK_eq_1, decide_false, r_vLen_lst, r_vIaddr_lst, List.length_map, lookT_here, lookT_next, lookO_here, lookO_next, uf76, uf76r8, uf76b9, uf76b10, uf76b13, uf76r14, uf76b15, uf76b16, uf76r17, uf76b18]
    refine call_s (s33 v) ?_
    simp only [varTypeV, h4, h5, cell_at h3, hc, q_wpLs_eq_1, q_wpLs_eq_2, q_wpL_eq_1, q_exL_eq_1, q_exL_eq_8, q_exL_eq_11, q_exL_eq_21, q_exL_eq_23, q_exL_eq_27, q_exL_eq_28, q_look_eq_1, q_look_eq_2, q_insT_eq_1, q_awl_eq_1, q_awl_eq_2, q_awl_eq_5, q_awl_eq_6, q_AE_thenL_eq_1, q_putK_eq_1, q_vBin_eq_1, q_resV_eq_1, q_binV_eq_1, q_binInt_eq_3, q_cutInt_eq_6, q_cutInt_eq_7, q_vExtr_eq_1, q_vFaddr_eq_1, q_vFaddr_eq_3, q_partV_eq_2, q_loadO_eq_1, q_isV_eq_1, q_vLoad_eq_1, q_vLoad_eq_2, q_ofRow_eq_1, q_pureRow_eq_1, q_pureRow_eq_2, q_isVarO_eq_1, q_Option_map_some, q_List_map_cons, q_List_map_nil, q_List_take_succ_cons, q_List_take_zero, q_List_drop_zero, q_List_length_cons, q_List_length_nil, q_List_getElemQ_cons_zero, q_List_getElemQ_cons_succ, q_List_getD_cons_zero, q_List_getD_cons_succ, true_and, if_true, if_false, Bool.false_eq_true, and_self, Nat.reduceAdd, Nat.reduceBEq, Nat.zero_add, Nat.add_zero, Nat.le_refl, q_learn_eq_1, q_condK_eq_1, condB_beq, r_vIaddr_lst, List.length_map, lookT_here, lookT_next, lookO_here, lookO_next, uf76r1, uf76b2, uf76r3, uf76b4, uf76b5, uf76r6, uf76b7]
    rw [if_neg (by simp)] at hv
    have hty : (varType v).getD 0 = 0 ∨ (varType v).getD 0 = 1 := by unfold varType; split <;> (try split) <;> simp
    repeat' (first | with_reducible refine And.intro ?_ ?_ | with_reducible intro _)
    · rename_i hk
      refine call_r (s94 (n != 0)) ?_
      simp only [encCV, encCell, q_wpLs_eq_1, q_wpLs_eq_2, q_wpL_eq_1, q_exL_eq_9, q_look_eq_1, q_insT_eq_1, q_insO_eq_1, q_awl_eq_10, q_AE_thenL_eq_3, q_ofRow_eq_2, q_pureRow_eq_1, q_pureRow_eq_2, q_V_cells_eq_2, q_splice_eq_1, q_stVarK_eq_1, q_storeK_eq_1, q_mapT_eq_1, q_mapT_eq_2, q_mapO_eq_1, q_mapO_eq_2, q_endK_eq_2, q_endL_eq_1, q_endV_eq_1, q_resL_eq_1, q_resL_eq_2, q_resX_eq_2, q_resCell_eq_1, q_one_eq_1, q_V_nrm_eq_1, q_V_nrm_eq_2, q_V_nrm_eq_4, q_K_nrm_eq_1, q_K_nrm_eq_2, q_K_nrm_eq_3, q_V_nrmL_eq_1, q_V_nrmL_eq_2, q_O_nrm_eq_1, q_V_owns_eq_4, q_V_toNew_eq_2, q_C_norm_eq_4, q_C_norm_eq_5, q_C_normRow_eq_1, q_C_normRow_eq_2, q_regN_eq_2, q_V_reg_eq_4, q_freesL_eq_1, q_addsL_eq_1, q_regK_eq_1, q_retK_eq_2, q_Option_map_some, q_List_map_cons, q_List_map_nil, q_List_take_succ_cons, q_List_take_zero, q_List_drop_succ_cons, q_List_drop_zero, q_List_nil_append, q_List_length_cons, q_List_length_nil, true_and, if_true, and_self, List.append_nil, List.nodup_nil, Nat.reduceAdd, Nat.reduceMul, Nat.reduceLT, Nat.reduceBEq, Nat.zero_add, Nat.le_refl, norm_lst, normRows_Ce, lookT_here, lookT_next, lookO_here]
      refine fin hS (encCV_eq (a := yes (n != 0)) ?_)
      rw [hv, if_neg (by omega)]
      by_cases hn : n = 0 <;> simp [yes, hn]
    · rename_i hk
      refine call_s (s93 n) ?_
      simp only [q_wpLs_eq_1, q_wpLs_eq_2, q_wpL_eq_1, q_exL_eq_6, q_exL_eq_9, q_look_eq_1, q_look_eq_2, q_insT_eq_1, q_insO_eq_1, q_awl_eq_10, q_putK_eq_1, q_vBuild_eq_1, q_vBuild_eq_2, q_rowV_eq_1, q_ofRow_eq_2, q_pureRow_eq_1, q_pureRow_eq_2, q_V_cells_eq_1, q_V_cells_eq_2, q_splice_eq_1, q_stVarK_eq_1, q_storeK_eq_1, q_mapT_eq_1, q_mapT_eq_2, q_mapO_eq_1, q_mapO_eq_2, q_endK_eq_2, q_endL_eq_1, q_endV_eq_1, q_resL_eq_1, q_resL_eq_2, q_resX_eq_2, q_resCell_eq_1, q_one_eq_1, q_V_nrm_eq_1, q_V_nrm_eq_2, q_V_nrm_eq_4, q_K_nrm_eq_1, q_K_nrm_eq_2, q_K_nrm_eq_3, q_V_nrmL_eq_1, q_V_nrmL_eq_2, q_O_nrm_eq_1, q_V_owns_eq_4, q_V_toNew_eq_2, q_C_norm_eq_4, q_C_norm_eq_5, q_C_normRow_eq_1, q_C_normRow_eq_2, q_Option_map_some, q_List_map_cons, q_List_map_nil, q_List_take_succ_cons, q_List_take_zero, q_List_drop_succ_cons, q_List_drop_zero, q_List_nil_append, q_List_cons_append, q_List_length_cons, q_List_length_nil, true_and, if_true, and_self, List.append_nil, List.nodup_nil, Nat.reduceAdd, Nat.reduceLeDiff, Nat.reduceLT, Nat.reduceBEq, Nat.zero_add, Nat.le_refl, norm_lst, normRows_Ce, lookT_here, lookT_next, lookO_here]
      exact fin hS (encCV_eq (a := ⟨_, _⟩) (by rw [hv, if_pos (by omega)]; rfl))
end Go.Abs


set_option maxRecDepth 100000
set_option maxHeartbeats 4000000
namespace Go.Abs
open Go.Proofs
theorem wrapu_in {n : Int} (h1 : 0 ≤ n) (h2 : n < 18446744073709551616) : IntKind.u64.wrap n = n := by
  have : IntKind.u64.wrap n = n % 18446744073709551616 := rfl
  rw [this]; omega
theorem and32 (a : Nat) (h : a < 18446744073709551616) : IntKind.u64.wrap (((BitVec.ofInt IntKind.u64.bits (a : Int) &&& BitVec.ofInt IntKind.u64.bits 4294967295).toNat : Nat) : Int) = ((a % 4294967296 : Nat) : Int) := by
  have e : (BitVec.ofInt IntKind.u64.bits (a : Int) &&& BitVec.ofInt IntKind.u64.bits 4294967295).toNat = a % 4294967296 := by
    show (BitVec.ofInt 64 (a : Int) &&& BitVec.ofInt 64 4294967295).toNat = _
    rw [BitVec.toNat_and]
    have e1 : (BitVec.ofInt 64 (a : Int)).toNat = a := by
      rw [BitVec.toNat_ofInt]; omega
    have e2 : (BitVec.ofInt 64 4294967295).toNat = 2 ^ 32 - 1 := by rfl
    rw [e1, e2, Nat.and_two_pow_sub_one_eq_mod]
  rw [e]
  exact wrapu_in (by omega) (by omega)
theorem shr32 (a : Nat) : (a : Int).fdiv (2 ^ (min (Int.toNat 32) IntKind.u64.bits)) = ((a / 4294967296 : Nat) : Int) := by
  show (a : Int).fdiv 4294967296 = _
  rw [Int.fdiv_eq_ediv_of_nonneg _ (by omega)]; omega
theorem s108 (x y : Nat) (hx : x < 4398046511104) (hy : y < 4398046511104) : Spec Try.prog 108 [.int .u64 x, .int .u64 y] (fun r => r = .tup [.int .u64 ((x * y / 18446744073709551616 : Nat) : Int), .int .u64 ((x * y % 18446744073709551616 : Nat) : Int)]) := by
  refine Spec.of_awlS hf108 okf108 (by simp) fun S hS => ?_
  simp only [q_wpLs_eq_1, q_wpLs_eq_2, q_wpL_eq_1, q_exL_eq_1, q_exL_eq_11, q_look_eq_1, q_look_eq_2, q_lookO_eq_1, q_insT_eq_1, q_awl_eq_2, q_awl_eq_5, q_awl_eq_10, q_AE_thenL_eq_1, q_initT_eq_1, q_initT_eq_2, q_putK_eq_1, q_vBin_eq_1, q_resV_eq_1, q_binV_eq_1, q_binInt_eq_2, q_binInt_eq_3, q_cutInt_eq_1, q_cutInt_eq_3, q_cutInt_eq_12, q_mapT_eq_1, q_mapT_eq_2, q_mapO_eq_1, q_endK_eq_2, q_endL_eq_1, q_endV_eq_1, q_resL_eq_1, q_resL_eq_2, q_resX_eq_1, q_one_eq_2, q_V_nrm_eq_1, q_K_nrm_eq_1, q_V_owns_eq_1, q_V_owns_eq_3, q_K_owns_eq_2, q_V_ownsL_eq_1, q_V_ownsL_eq_2, q_V_toNew_eq_1, q_V_toNew_eq_4, q_K_toNew_eq_1, q_V_toNewL_eq_1, q_V_toNewL_eq_2, q_C_norm_eq_4, true_and, if_true, and_self, List.append_nil, List.nodup_nil, Nat.reduceAdd, Nat.reduceBEq, Nat.zero_add, lookT_here, lookT_next, Int.reduceLE, Int.reduceToNat, uf108, uf108r1, uf108b2, uf108r3, uf108b4, uf108r5, uf108b6, uf108r7, uf108b8, uf108r9, uf108b10, uf108r11, uf108b12, uf108r13, uf108b14, uf108r15, uf108b16, uf108r17, uf108b18, uf108r19, uf108b20, uf108r21, uf108b22, uf108r23, uf108b24]
  have hx1 : x / 4294967296 < 1024 := by omega
  have hy1 : y / 4294967296 < 1024 := by omega
  have hx0 : x % 4294967296 < 4294967296 := by omega
  have hy0 : y % 4294967296 < 4294967296 := by omega
  have hxe : x = x / 4294967296 * 4294967296 + x % 4294967296 := by omega
  have hye : y = y / 4294967296 * 4294967296 + y % 4294967296 := by omega
  have a1 := and32 x (by omega)
  have a2 := and32 y (by omega)
  have a3 := shr32 x
  have a4 := shr32 y
  have hxy : IntKind.u64.wrap ((x : Int) * (y : Int)) = ((x * y % 18446744073709551616 : Nat) : Int) := by
    have : IntKind.u64.wrap ((x : Int) * (y : Int)) = ((x : Int) * (y : Int)) % 18446744073709551616 := rfl
    rw [this]; simp
  simp only [Int.reduceToNat] at a3 a4
  have prod : x * y = x / 4294967296 * (y / 4294967296) * 18446744073709551616 + (x / 4294967296 * (y % 4294967296) + x % 4294967296 * (y / 4294967296)) * 4294967296 + x % 4294967296 * (y % 4294967296) := by
    conv => lhs; rw [hxe, hye]
    generalize x / 4294967296 = p
    generalize x % 4294967296 = q
    generalize y / 4294967296 = r
    generalize y % 4294967296 = s
    rw [Nat.add_mul, Nat.mul_add, Nat.mul_add, Nat.add_mul]
    have h1 : p * 4294967296 * (r * 4294967296) = p * r * 18446744073709551616 := by
      rw [Nat.mul_mul_mul_comm]
    have h2 : p * 4294967296 * s = p * s * 4294967296 := by rw [Nat.mul_right_comm]
    have h3 : q * (r * 4294967296) = q * r * 4294967296 := by rw [Nat.mul_assoc]
    rw [h1, h2, h3]
    omega
  have A : x % 4294967296 * (y % 4294967296) < 18446744073709551616 := Nat.lt_of_lt_of_le (Nat.mul_lt_mul'' hx0 hy0) (by decide)
  have B : x / 4294967296 * (y % 4294967296) < 4398046511104 := Nat.lt_of_lt_of_le (Nat.mul_lt_mul'' hx1 hy0) (by decide)
  have C : x % 4294967296 * (y / 4294967296) < 4398046511104 := Nat.lt_of_lt_of_le (Nat.mul_lt_mul'' hx0 hy1) (by decide)
  have D : x / 4294967296 * (y / 4294967296) < 1048576 := Nat.lt_of_lt_of_le (Nat.mul_lt_mul'' hx1 hy1) (by decide)
  have wN : ∀ n : Nat, n < 18446744073709551616 → IntKind.u64.wrap (n : Int) = n := fun n h => wrapu_in (by omega) (by omega)
  simp only [a1, a2, a3, a4, hxy]
  rw [prod]
  generalize x / 4294967296 = p at *
  generalize x % 4294967296 = q at *
  generalize y / 4294967296 = r at *
  generalize y % 4294967296 = s at *
  have e1 : IntKind.u64.wrap ((q : Int) * (s : Int)) = ((q * s : Nat) : Int) := by rw [← Int.natCast_mul]; exact wN _ A
  have e2 : IntKind.u64.wrap ((p : Int) * (s : Int)) = ((p * s : Nat) : Int) := by rw [← Int.natCast_mul]; exact wN _ (by omega)
  have e6 : IntKind.u64.wrap ((q : Int) * (r : Int)) = ((q * r : Nat) : Int) := by rw [← Int.natCast_mul]; exact wN _ (by omega)
  have e10 : IntKind.u64.wrap ((p : Int) * (r : Int)) = ((p * r : Nat) : Int) := by rw [← Int.natCast_mul]; exact wN _ (by omega)
  simp only [e1, e2, e6, e10]
  clear e1 e2 e6 e10 a1 a2 a3 a4 hxy
  have shr : ∀ n : Nat, (n : Int).fdiv (2 ^ min 32 IntKind.u64.bits) = ((n / 4294967296 : Nat) : Int) := fun n => shr32 n
  generalize q * s = A' at *
  generalize p * s = B' at *
  generalize q * r = C' at *
  generalize p * r = D' at *
  have e4 : IntKind.u64.wrap ((B' : Int) + ((A' / 4294967296 : Nat) : Int)) = ((B' + A' / 4294967296 : Nat) : Int) := by rw [← Int.natCast_add]; exact wN _ (by omega)
  simp only [shr, e4]
  have a5 := and32 (B' + A' / 4294967296) (by omega)
  simp only [a5]
  have e7 : IntKind.u64.wrap ((((B' + A' / 4294967296) % 4294967296 : Nat) : Int) + (C' : Int)) = (((B' + A' / 4294967296) % 4294967296 + C' : Nat) : Int) := by rw [← Int.natCast_add]; exact wN _ (by omega)
  simp only [e7, shr]
  have e8 : IntKind.u64.wrap ((D' : Int) + (((B' + A' / 4294967296) / 4294967296 : Nat) : Int)) = ((D' + (B' + A' / 4294967296) / 4294967296 : Nat) : Int) := by rw [← Int.natCast_add]; exact wN _ (by omega)
  simp only [e8]
  have e9 : IntKind.u64.wrap (((D' + (B' + A' / 4294967296) / 4294967296 : Nat) : Int) + ((((B' + A' / 4294967296) % 4294967296 + C') / 4294967296 : Nat) : Int)) = ((D' + (B' + A' / 4294967296) / 4294967296 + ((B' + A' / 4294967296) % 4294967296 + C') / 4294967296 : Nat) : Int) := by rw [← Int.natCast_add]; exact wN _ (by omega)
  simp only [e9]
  rw [prod] at hS
  refine fin hS ?_
  have e : D' + (B' + A' / 4294967296) / 4294967296 + ((B' + A' / 4294967296) % 4294967296 + C') / 4294967296 = (D' * 18446744073709551616 + (B' + C') * 4294967296 + A') / 18446744073709551616 := by omega
  rw [e]
theorem times_pos {a b : Int} (h : decide (a < 0) = decide (b < 0)) : times a b = min ((a.natAbs * b.natAbs : Nat) : Int) 1099511627776 := by
  have e : a * b = ((a.natAbs * b.natAbs : Nat) : Int) := by
    rw [Int.natCast_mul]
    by_cases ha : a < 0
    · have hb : b < 0 := by simpa [ha] using h
      have e1 : -a = (a.natAbs : Int) := by omega
      have e2 : -b = (b.natAbs : Int) := by omega
      rw [← Int.neg_mul_neg, e1, e2]
    · have hb : ¬ b < 0 := by simpa [ha] using h
      have e1 : a = (a.natAbs : Int) := by omega
      have e2 : b = (b.natAbs : Int) := by omega
      rw [← e1, ← e2]
  rw [times, e, cut]; omega
theorem times_neg {a b : Int} (h : ¬ decide (a < 0) = decide (b < 0)) : times a b = - min ((a.natAbs * b.natAbs : Nat) : Int) 1099511627776 := by
  have e : a * b = - ((a.natAbs * b.natAbs : Nat) : Int) := by
    rw [Int.natCast_mul]
    by_cases ha : a < 0
    · have hb : ¬ b < 0 := by simpa [ha] using h
      have e1 : a = -(a.natAbs : Int) := by omega
      have e2 : b = (b.natAbs : Int) := by omega
      rw [← Int.neg_mul, ← e1, ← e2]
    · have hb : b < 0 := by
        by_cases hb : b < 0
        · exact hb
        · simp [ha, hb] at h
      have e1 : a = (a.natAbs : Int) := by omega
      have e2 : b = -(b.natAbs : Int) := by omega
      rw [← Int.mul_neg, ← e1, ← e2]
  rw [times, e, cut]; omega
theorem fin_int {S : V → Prop} {x y : Int} (h : S (.int .i64 x)) (e : y = x) : S (.k (.c (.int .i64 y))) := e ▸ h
theorem s106 (a b : Int) (ha : -1099511627776 ≤ a ∧ a ≤ 1099511627776) (hb : -1099511627776 ≤ b ∧ b ≤ 1099511627776) : Spec Try.prog 106 [.int .i64 a, .int .i64 b] (fun r => r = .int .i64 (times a b)) := by
  refine Spec.of_awlS hf106 okf106 (by simp) fun S hS => ?_
  have n1 : IntKind.i64.wrap (0 - a) = -a := by rw [wrap_in (by omega) (by omega)]; omega
  have n2 : IntKind.i64.wrap (0 - b) = -b := by rw [wrap_in (by omega) (by omega)]; omega
  have m1 : (if -a > a then -a else a) = (a.natAbs : Int) := by split <;> omega
  have m2 : (if -b > b then -b else b) = (b.natAbs : Int) := by split <;> omega
  have u1 : IntKind.u64.wrap (a.natAbs : Int) = a.natAbs := wrapu_in (by omega) (by omega)
  have u2 : IntKind.u64.wrap (b.natAbs : Int) = b.natAbs := wrapu_in (by omega) (by omega)
  simp only [n1, n2, m1, m2, u1, u2, q_wpLs_eq_1, q_wpLs_eq_2, q_wpL_eq_1, q_exL_eq_1, q_exL_eq_15, q_exL_eq_16, q_exL_eq_28, q_exL_eq_34, q_look_eq_1, q_look_eq_2, q_insT_eq_1, q_awl_eq_2, q_awl_eq_5, q_AE_thenL_eq_1, q_initT_eq_1, q_initT_eq_2, q_putK_eq_1, q_vUn_eq_1, q_unV_eq_1, q_mapC_eq_1, q_vConv_eq_1, q_vInts_eq_1, q_vInts_eq_2, q_foldV_eq_1, q_vMinmax_eq_1, q_minmaxI_eq_1, q_Option_map_some, q_List_map_cons, q_List_map_nil, q_List_foldl_cons, q_List_foldl_nil, true_and, if_true, Nat.reduceAdd, Nat.reduceBEq, Nat.zero_add, lookT_here, lookT_next, uf106, uf106r16, uf106b17, uf106r18, uf106b19]
  refine call_s (s108 a.natAbs b.natAbs (by omega) (by omega)) ?_
  simp only [q_wpLs_eq_1, q_wpLs_eq_2, q_wpL_eq_1, q_putDL_eq_1, q_AOp_dst_eq_1, q_AOp_dst_eq_10, q_exL_eq_1, q_exL_eq_3, q_exL_eq_11, q_exL_eq_12, q_exL_eq_15, q_exL_eq_16, q_exL_eq_27, q_look_eq_1, q_look_eq_2, q_lookO_eq_1, q_insT_eq_1, q_awl_eq_1, q_awl_eq_2, q_awl_eq_5, q_awl_eq_6, q_awl_eq_10, q_AE_thenL_eq_1, q_AE_thenL_eq_3, q_putK_eq_1, q_vBin_eq_1, q_resV_eq_1, q_binV_eq_1, q_binInt_eq_3, q_cutInt_eq_6, q_cutInt_eq_8, q_vBinB_eq_1, q_vUn_eq_1, q_unV_eq_1, q_mapC_eq_1, q_vConv_eq_1, q_vExtr_eq_1, q_vPick_eq_1, q_vPick_eq_3, q_mapT_eq_1, q_mapT_eq_2, q_mapO_eq_1, q_endK_eq_2, q_endL_eq_1, q_endV_eq_1, q_resL_eq_1, q_resL_eq_2, q_resX_eq_1, q_one_eq_1, q_V_nrm_eq_1, q_V_nrm_eq_4, q_V_nrm_eq_5, q_K_nrm_eq_1, q_V_nrmL_eq_1, q_V_nrmL_eq_2, q_V_owns_eq_1, q_K_owns_eq_2, q_V_toNew_eq_1, q_K_toNew_eq_1, q_C_norm_eq_4, q_C_norm_eq_5, q_Bool_not_true, q_List_getElemQ_cons_zero, q_List_getElemQ_cons_succ, true_and, if_true, and_self, Int.reduceNeg, List.nodup_nil, Nat.reduceBEq, q_learn_eq_1, q_guardP_eq_1, q_condK_eq_1, q_condB_eq_1, q_condB_eq_2, q_exK_eq_1, condB_decide, condB_beq, condB_not, lookT_here, lookT_next, Int.reduceSub, uf106r1, uf106b2, uf106r3, uf106b4, uf106b5, uf106r6, uf106b7, uf106b8, uf106r9, uf106b10, uf106r11, uf106b12, uf106b13, uf106r14, uf106b15]
  have hbd : a.natAbs * b.natAbs ≤ 1099511627776 * 1099511627776 := Nat.mul_le_mul (by omega) (by omega)
  generalize hp : a.natAbs * b.natAbs = p at *
  repeat' (first | with_reducible refine And.intro ?_ ?_ | with_reducible intro _)
  all_goals
    rename_i h
    refine fin_int hS ?_
    first
      | (rw [times_pos h, hp]; (try rw [wrap_in (by omega) (by omega)]); omega)
      | (rw [times_neg h, hp]; (try rw [wrap_in (n := ((p % 18446744073709551616 : Nat) : Int)) (by omega) (by omega)]); (try rw [wrap_in (by omega) (by omega)]); omega)
def inN (n : Int) : Prop := -1099511627776 ≤ n ∧ n ≤ 1099511627776
def arith (op a b : Int) : Int := if op = 9 then cut (a + b) else if op = 10 then cut (a - b) else if op = 11 then times a b else if op = 12 then min a b else max a b
theorem s95 (op a b : Int) (ha : inN a) (hb : inN b) : Spec Try.prog 95 [.int .i64 op, .int .i64 a, .int .i64 b] (fun r => r = .int .i64 (arith op a b)) := by
  refine Spec.of_awlS hf95 okf95 (by simp) fun S hS => ?_
  obtain ⟨a1, a2⟩ := ha
  obtain ⟨b1, b2⟩ := hb
  have w1 : IntKind.i64.wrap (a + b) = a + b := wrap_in (by omega) (by omega)
  have w2 : IntKind.i64.wrap (a - b) = a - b := wrap_in (by omega) (by omega)
  simp only [w1, w2, q_wpLs_eq_1, q_wpLs_eq_2, q_wpL_eq_1, q_exL_eq_1, q_exL_eq_11, q_exL_eq_28, q_exL_eq_34, q_look_eq_1, q_look_eq_2, q_lookO_eq_1, q_insT_eq_1, q_awl_eq_1, q_awl_eq_2, q_awl_eq_5, q_awl_eq_6, q_awl_eq_7, q_awl_eq_10, q_AE_thenL_eq_1, q_AE_thenL_eq_3, q_AE_inBlockL_eq_1, q_AE_inBlockL_eq_3, q_initT_eq_1, q_initT_eq_2, q_putK_eq_1, q_vBin_eq_1, q_resV_eq_1, q_binV_eq_1, q_binInt_eq_3, q_cutInt_eq_1, q_cutInt_eq_2, q_cutInt_eq_6, q_vInts_eq_1, q_vInts_eq_2, q_foldV_eq_1, q_vMinmax_eq_1, q_minmaxI_eq_1, q_mapT_eq_1, q_mapT_eq_2, q_mapO_eq_1, q_endK_eq_2, q_endL_eq_1, q_endV_eq_1, q_resL_eq_1, q_resL_eq_2, q_resX_eq_1, q_one_eq_1, q_V_nrm_eq_1, q_K_nrm_eq_1, q_V_owns_eq_1, q_K_owns_eq_2, q_V_toNew_eq_1, q_K_toNew_eq_1, q_C_norm_eq_4, q_C_norm_eq_5, q_Option_map_some, q_List_map_cons, q_List_map_nil, q_List_foldl_cons, q_List_foldl_nil, true_and, if_true, if_false, Bool.false_eq_true, and_self, List.nodup_nil, Nat.reduceAdd, Nat.reduceBEq, Nat.zero_add, q_learn_eq_1, q_condK_eq_1, condB_beq, lookT_here, lookT_next, uf95, uf95r1, uf95b2, uf95r3, uf95b4, uf95r5, uf95b6, uf95r7, uf95b8, uf95r9, uf95b10, uf95b11, uf95r12, uf95b13, uf95b14, uf95r15, uf95b16, uf95b17, uf95r18, uf95b19, uf95b20, uf95r21, uf95b22, uf95b23, uf95r24, uf95b25, uf95b26, uf95r27, uf95b28]
  repeat' (first | with_reducible refine And.intro ?_ ?_ | with_reducible intro _)
  · refine call_s (s93 (a + b)) ?_
    simp only [q_wpLs_eq_1, q_wpLs_eq_2, q_wpL_eq_1, q_exL_eq_1, q_look_eq_1, q_lookO_eq_1, q_insT_eq_1, q_awl_eq_10, q_AE_thenL_eq_3, q_AE_inBlockL_eq_3, q_mapT_eq_1, q_mapT_eq_2, q_mapO_eq_1, q_endK_eq_2, q_endL_eq_1, q_endV_eq_1, q_resL_eq_1, q_resL_eq_2, q_resX_eq_1, q_one_eq_1, q_V_nrm_eq_1, q_K_nrm_eq_1, q_V_owns_eq_1, q_K_owns_eq_2, q_V_toNew_eq_1, q_K_toNew_eq_1, q_C_norm_eq_4, q_C_norm_eq_5, true_and, and_self, List.nodup_nil, lookT_here]
    exact fin_int hS (by simp_all [arith])
  · refine call_s (s93 (a - b)) ?_
    simp only [q_wpLs_eq_1, q_wpLs_eq_2, q_wpL_eq_1, q_exL_eq_1, q_look_eq_1, q_lookO_eq_1, q_insT_eq_1, q_awl_eq_10, q_AE_thenL_eq_3, q_AE_inBlockL_eq_3, q_mapT_eq_1, q_mapT_eq_2, q_mapO_eq_1, q_endK_eq_2, q_endL_eq_1, q_endV_eq_1, q_resL_eq_1, q_resL_eq_2, q_resX_eq_1, q_one_eq_1, q_V_nrm_eq_1, q_K_nrm_eq_1, q_V_owns_eq_1, q_K_owns_eq_2, q_V_toNew_eq_1, q_K_toNew_eq_1, q_C_norm_eq_4, q_C_norm_eq_5, true_and, and_self, List.nodup_nil, lookT_here]
    exact fin_int hS (by simp_all [arith])
  · refine call_s (s106 a b ⟨a1, a2⟩ ⟨b1, b2⟩) ?_
    simp only [q_wpLs_eq_1, q_wpLs_eq_2, q_wpL_eq_1, q_exL_eq_1, q_look_eq_1, q_lookO_eq_1, q_insT_eq_1, q_awl_eq_10, q_AE_thenL_eq_3, q_AE_inBlockL_eq_3, q_mapT_eq_1, q_mapT_eq_2, q_mapO_eq_1, q_endK_eq_2, q_endL_eq_1, q_endV_eq_1, q_resL_eq_1, q_resL_eq_2, q_resX_eq_1, q_one_eq_1, q_V_nrm_eq_1, q_K_nrm_eq_1, q_V_owns_eq_1, q_K_owns_eq_2, q_V_toNew_eq_1, q_K_toNew_eq_1, q_C_norm_eq_4, q_C_norm_eq_5, true_and, and_self, List.nodup_nil, lookT_here]
    exact fin_int hS (by simp_all [arith])
  · exact fin_int hS (by simp_all [arith]; split <;> omega)
  · exact fin_int hS (by simp_all [arith]; split <;> omega)
end Go.Abs


set_option maxRecDepth 100000
namespace Go.Abs
open Go.Proofs
theorem s58 : ∀ (lv : Nat) (t : Term) (k : Int), 0 ≤ k → k ≤ 1000000 → lv ≤ 1000000 → Spec Try.prog 58 [.agg (encT t), .int .i64 k, .int .i64 lv] (fun r => r = .int .i64 (nodes t k lv)) := by
  intro lv
  induction lv with
  | zero =>
    intro t k h1 h2 h3
    refine Spec.of_awl hf58 okf58 (by simp) ?_
    have hw : IntKind.i64.wrap (k - 1) = k - 1 := wrap_in (by omega) (by omega)
    have hl : ((0 : Nat) : Int) < 1 := by omega
    simp only [encT_eq, lstC, map_len, hw, hl, not_true_eq_false, q_wpLs_eq_1, q_wpLs_eq_2, q_wpL_eq_1, q_exL_eq_1, q_exL_eq_5, q_exL_eq_11, q_look_eq_1, q_look_eq_2, q_insT_eq_1, q_insO_eq_1, q_awl_eq_2, q_awl_eq_5, q_awl_eq_6, q_awl_eq_10, q_AE_thenL_eq_1, q_AE_thenL_eq_3, q_initT_eq_1, q_initT_eq_2, q_putK_eq_1, q_vBin_eq_1, q_resV_eq_1, q_binV_eq_1, q_binInt_eq_3, q_cutInt_eq_2, q_cutInt_eq_8, q_boxK_eq_1, q_mapT_eq_1, q_mapT_eq_2, q_mapO_eq_1, q_mapO_eq_2, q_freeB_eq_1, q_freeT_eq_1, q_freeT_eq_2, q_freeO_eq_1, q_V_noRef_eq_1, q_V_noRef_eq_2, q_K_noRef_eq_1, q_endK_eq_2, q_endL_eq_1, q_endV_eq_1, q_resL_eq_1, q_resL_eq_2, q_resX_eq_1, q_one_eq_1, q_V_nrm_eq_1, q_V_nrm_eq_2, q_K_nrm_eq_1, q_K_nrm_eq_3, q_O_nrm_eq_1, q_V_owns_eq_1, q_K_owns_eq_2, q_V_toNew_eq_1, q_K_toNew_eq_1, q_C_norm_eq_1, q_C_norm_eq_4, q_C_norm_eq_5, q_C_normRow_eq_1, q_C_normRow_eq_2, q_List_map_cons, q_List_map_nil, true_and, if_true, and_self, Bool.and_true, Bool.or_true, Int.reduceNeg, List.nodup_nil, Nat.reduceAdd, Nat.reduceBEq, Nat.zero_add, q_learn_eq_1, q_condK_eq_1, q_condB_eq_1, decide_true, normRows_T, lookT_here, lookT_next, Int.reduceLT, Int.cast_ofNat_Int, uf58, uf58r16, uf58b17, uf58b18, uf58r19, uf58b20, uf58b21, uf58r22, uf58b23, uf58r24, uf58b25]
    rw [nodes_eq]
    simp
  | succ lv ih =>
    intro t k h1 h2 h3
    refine Spec.of_len hf58 fun hlen => ?_
    replace hlen : t.args.length ≤ 9223372036854775807 := by
      have := hlen (.agg (encT t)) (by simp) (lstC 3 (t.args.map encT)) (by rw [encT_eq]; simp [V.topC]) _ _ _ rfl
      simpa using this
    refine Spec.of_awl hf58 okf58 (by simp) ?_
    have hw : IntKind.i64.wrap (k - 1) = k - 1 := wrap_in (by omega) (by omega)
    have hl : ¬ ((lv + 1 : Nat) : Int) < 1 := by omega
    simp only [encT_eq, lstC, map_len, hw, hl, not_true_eq_false, not_false_eq_true, q_wpLs_eq_1, q_wpLs_eq_2, q_wpL_eq_1, q_exL_eq_1, q_exL_eq_5, q_exL_eq_11, q_look_eq_1, q_look_eq_2, q_insT_eq_1, q_insO_eq_1, q_awl_eq_1, q_awl_eq_2, q_awl_eq_5, q_awl_eq_6, q_awl_eq_7, q_AE_thenL_eq_1, q_initT_eq_1, q_initT_eq_2, q_putK_eq_1, q_vBin_eq_1, q_resV_eq_1, q_binV_eq_1, q_binInt_eq_3, q_cutInt_eq_2, q_cutInt_eq_8, q_boxK_eq_1, q_freeB_eq_1, q_freeT_eq_1, q_freeT_eq_2, q_freeO_eq_1, q_V_noRef_eq_1, q_V_noRef_eq_2, q_K_noRef_eq_1, q_List_map_cons, q_List_map_nil, true_and, if_true, Bool.and_true, Bool.or_true, Nat.reduceAdd, Nat.reduceBEq, Nat.zero_add, q_learn_eq_1, q_condK_eq_1, q_condB_eq_2, decide_false, lookT_here, lookT_next, uf58, uf58b12, uf58r13, uf58b14, uf58b15, uf58b18, uf58r19, uf58b20, uf58b21, uf58r22, uf58b23, uf58r24, uf58b25]
    rw [uf58l11]
    refine awl_loop (fun x : Nat × Int => [(1, .int .i64 x.2), (2, .int .i64 ((lv + 1 : Nat) : Int)), (3, .k (.ptr 3 0)), (7, .int .i64 x.1)]) (fun _ => [(3, .var 41 ((encT t).map .c))])
      (fun x => x.1 ≤ t.args.length ∧ -1 ≤ x.2 ∧ x.2 ≤ 1000000 ∧ nodesL (t.args.drop x.1) x.2 lv = nodesL t.args (k - 1) lv) (fun x => t.args.length - x.1) (0, k - 1) rfl (by rw [encT_eq]; rfl) ⟨Nat.zero_le _, by simp only []; omega, by simp only []; omega, rfl⟩ ?_
    rintro ⟨i, n⟩ ⟨hi, hn1, hn2, hj⟩
    simp only [] at hi hn1 hn2 hj
    have hfin : nodes t k ((lv + 1 : Nat) : Int) = nodesL t.args (k - 1) lv := by
      rw [nodes_eq, if_neg hl]
      congr 1; omega
    by_cases hlt : i < t.args.length
    · have c1 : (i : Int) < t.args.length := by omega
      have c3 : IntKind.i64.wrap (((lv + 1 : Nat) : Int) - 1) = (lv : Int) := by rw [wrap_in (by omega) (by omega)]; omega
      have c4 : IntKind.i64.wrap ((i : Int) + 1) = (i : Int) + 1 := wrap_in (by omega) (by omega)
      simp only [encT_eq t, lstC, map_len, map_isEmpty, sz_of hlt, map_at hlt, encT_len, c1, c3, not_true_eq_false, q_wpLs_eq_1, q_wpLs_eq_2, q_wpL_eq_1, q_AOp_dst_eq_1, q_AOp_dst_eq_10, q_exL_eq_1, q_exL_eq_3, q_exL_eq_8, q_exL_eq_11, q_exL_eq_21, q_exL_eq_23, q_exL_eq_28, q_exL_eq_30, q_look_eq_1, q_look_eq_2, q_insT_eq_1, q_awl_eq_1, q_awl_eq_2, q_awl_eq_5, q_awl_eq_6, q_awl_eq_7, q_awl_eq_9, q_awl_eq_10, q_AE_thenL_eq_1, q_AE_thenL_eq_2, q_AE_inBlockL_eq_1, q_AE_inBlockL_eq_2, q_putK_eq_1, q_vBin_eq_1, q_resV_eq_1, q_binV_eq_1, q_binInt_eq_3, q_cutInt_eq_2, q_cutInt_eq_8, q_cutInt_eq_11, q_vLen_eq_1, q_vFaddr_eq_1, q_partV_eq_1, q_loadO_eq_1, q_isV_eq_1, q_vLoad_eq_1, q_vLoad_eq_2, q_vIaddr_eq_1, q_vPick_eq_1, q_ofRow_eq_1, q_pureRow_eq_1, q_pureRow_eq_2, q_isVarO_eq_1, q_mapT_eq_1, q_mapT_eq_2, q_mapO_eq_1, q_mapO_eq_2, q_endK_eq_2, q_endL_eq_1, q_endV_eq_1, q_resL_eq_1, q_resL_eq_2, q_resX_eq_1, q_one_eq_1, q_V_nrm_eq_1, q_K_nrm_eq_1, q_K_nrm_eq_3, q_O_nrm_eq_1, q_V_owns_eq_1, q_K_owns_eq_2, q_V_toNew_eq_1, q_K_toNew_eq_1, q_C_norm_eq_1, q_C_norm_eq_4, q_C_norm_eq_5, q_Bool_not_true, q_Option_map_some, q_List_map_cons, q_List_map_nil, q_List_take_succ_cons, q_List_take_zero, q_List_drop_succ_cons, q_List_drop_zero, q_List_length_cons, q_List_length_nil, true_and, if_true, if_false, Bool.false_eq_true, and_self, Int.reduceNeg, List.nodup_nil, Nat.reduceAdd, Nat.reduceBEq, Nat.zero_add, Int.toNat_natCast, Nat.le_refl, Int.natCast_nonneg, q_learn_eq_1, q_guardP_eq_1, q_condK_eq_1, q_condB_eq_1, q_exK_eq_1, condB_decide, decide_true, normRows_T, List.length_map, lookT_here, lookT_next, lookO_here, uf58r1, uf58b2, uf58r3, uf58r4, uf58b5, uf58b6, uf58b7, uf58r8, uf58b9, uf58b10]
      refine ⟨fun h5 => ?_, fun h5 => ?_⟩
      · have hb := nodes_bd t.args[i] n lv (by omega)
        refine call_scalar (ih t.args[i] n (by omega) (by omega) (by omega)) rfl (by simp [lendL, V.norm, C.norm, encT_norm]) rfl ?_
        simp only [c4, q_wpLs_eq_1, q_wpLs_eq_2, q_wpL_eq_1, q_exL_eq_1, q_exL_eq_11, q_look_eq_1, q_look_eq_2, q_insT_eq_1, q_awl_eq_2, q_AE_thenL_eq_1, q_putK_eq_1, q_vBin_eq_1, q_resV_eq_1, q_binV_eq_1, q_binInt_eq_3, q_cutInt_eq_1, true_and, if_true, Int.reduceNeg, Nat.reduceBEq, lookT_here, lookT_next]
        refine Next.intro (i + 1, nodes t.args[i] n lv) rfl rfl ⟨by simp only []; omega, by simp only []; omega, by simp only []; omega, ?_⟩ (by simp only []; omega)
        rw [← hj, nodesL_drop hlt, if_neg (by omega)]
      · rw [hfin, ← hj, nodesL_neg _ _ _ (by omega)]
    · have c1 : ¬ (i : Int) < t.args.length := by omega
      simp only [encT_eq, lstC, map_len, c1, not_true_eq_false, not_false_eq_true, q_wpLs_eq_1, q_wpLs_eq_2, q_wpL_eq_1, q_putDL_eq_1, q_AOp_dst_eq_1, q_AOp_dst_eq_10, q_exL_eq_1, q_exL_eq_3, q_exL_eq_8, q_exL_eq_11, q_exL_eq_21, q_exL_eq_30, q_look_eq_1, q_look_eq_2, q_insT_eq_1, q_awl_eq_2, q_awl_eq_5, q_awl_eq_6, q_awl_eq_9, q_awl_eq_10, q_AE_thenL_eq_1, q_AE_thenL_eq_2, q_AE_inBlockL_eq_2, q_putK_eq_1, q_vBin_eq_1, q_resV_eq_1, q_binV_eq_1, q_binInt_eq_3, q_cutInt_eq_8, q_vLen_eq_1, q_vFaddr_eq_1, q_loadO_eq_1, q_isV_eq_1, q_vLoad_eq_1, q_vPick_eq_3, q_ofRow_eq_1, q_pureRow_eq_1, q_pureRow_eq_2, q_isVarO_eq_1, q_mapT_eq_1, q_mapT_eq_2, q_mapO_eq_1, q_mapO_eq_2, q_endK_eq_2, q_endL_eq_1, q_endV_eq_1, q_resL_eq_1, q_resL_eq_2, q_resX_eq_1, q_one_eq_1, q_V_nrm_eq_1, q_V_nrm_eq_5, q_K_nrm_eq_1, q_K_nrm_eq_3, q_O_nrm_eq_1, q_V_owns_eq_1, q_K_owns_eq_2, q_V_toNew_eq_1, q_K_toNew_eq_1, q_C_norm_eq_1, q_C_norm_eq_4, q_C_norm_eq_5, q_Bool_not_true, q_Option_map_some, q_List_map_cons, q_List_map_nil, q_List_take_succ_cons, q_List_take_zero, q_List_drop_succ_cons, q_List_drop_zero, q_List_length_cons, q_List_length_nil, true_and, if_true, if_false, Bool.false_eq_true, and_self, Int.reduceNeg, List.nodup_nil, Nat.reduceAdd, Nat.reduceBEq, Nat.zero_add, Nat.le_refl, q_learn_eq_1, q_guardP_eq_1, q_condK_eq_1, q_condB_eq_2, decide_false, normRows_T, List.length_map, lookT_here, lookT_next, lookO_here, uf58r1, uf58b2, uf58b7, uf58r8, uf58b9, uf58b10]
      rw [hfin, ← hj, List.drop_eq_nil_of_le (by omega), nodesL]
end Go.Abs


set_option maxRecDepth 100000
namespace Go.Abs
open Go.Proofs
theorem s59 : ∀ (f : Nat) (t : Term), f ≤ 8 → Spec Try.prog 59 [.agg (encT t), .int .i64 (9 - (f : Int))] (fun r => r = .int .i64 (meas f t)) := by
  intro f
  induction f with
  | zero =>
    intro t hf
    refine Spec.of_awl hf59 okf59 (by simp) ?_
    have c1 : (9 : Int) - ((0 : Nat) : Int) > 8 := by omega
    simp only [encT_eq, lstC, map_len, c1, not_true_eq_false, q_wpLs_eq_1, q_wpLs_eq_2, q_wpL_eq_1, q_exL_eq_1, q_exL_eq_5, q_exL_eq_11, q_look_eq_1, q_look_eq_2, q_insT_eq_1, q_insO_eq_1, q_awl_eq_2, q_awl_eq_5, q_awl_eq_6, q_awl_eq_10, q_AE_thenL_eq_1, q_AE_thenL_eq_3, q_initT_eq_1, q_initT_eq_2, q_putK_eq_1, q_vBin_eq_1, q_resV_eq_1, q_binV_eq_1, q_binInt_eq_3, q_cutInt_eq_10, q_boxK_eq_1, q_mapT_eq_1, q_mapT_eq_2, q_mapO_eq_1, q_mapO_eq_2, q_freeB_eq_1, q_freeT_eq_1, q_freeT_eq_2, q_freeO_eq_1, q_V_noRef_eq_1, q_V_noRef_eq_2, q_K_noRef_eq_1, q_endK_eq_2, q_endL_eq_1, q_endV_eq_1, q_resL_eq_1, q_resL_eq_2, q_resX_eq_1, q_one_eq_1, q_V_nrm_eq_1, q_V_nrm_eq_2, q_K_nrm_eq_1, q_K_nrm_eq_3, q_O_nrm_eq_1, q_V_owns_eq_1, q_K_owns_eq_2, q_V_toNew_eq_1, q_K_toNew_eq_1, q_C_norm_eq_1, q_C_norm_eq_4, q_C_norm_eq_5, q_C_normRow_eq_1, q_C_normRow_eq_2, q_List_map_cons, q_List_map_nil, true_and, if_true, and_self, Bool.and_true, Bool.or_true, List.nodup_nil, Nat.reduceAdd, Nat.reduceBEq, Nat.zero_add, q_learn_eq_1, q_condK_eq_1, q_condB_eq_1, decide_true, normRows_T, lookT_here, lookT_next, Int.reduceGT, Int.reduceSub, Int.cast_ofNat_Int, uf59, uf59r24, uf59b25, uf59b26, uf59r27, uf59b28, uf59b29, uf59r30, uf59b31]
    rfl
  | succ f ih =>
    intro t hf
    refine Spec.of_len hf59 fun hlen => ?_
    replace hlen : t.args.length ≤ 9223372036854775807 := by
      have := hlen (.agg (encT t)) (by simp) (lstC 3 (t.args.map encT)) (by rw [encT_eq]; simp [V.topC]) _ _ _ rfl
      simpa using this
    refine Spec.of_awl hf59 okf59 (by simp) ?_
    have hl : ¬ ((9 : Int) - ((f + 1 : Nat) : Int)) > 8 := by omega
    simp only [encT_eq, lstC, map_len, hl, not_true_eq_false, not_false_eq_true, q_wpLs_eq_1, q_wpLs_eq_2, q_wpL_eq_1, q_exL_eq_1, q_exL_eq_5, q_exL_eq_8, q_exL_eq_11, q_exL_eq_21, q_exL_eq_30, q_look_eq_1, q_look_eq_2, q_insT_eq_1, q_insO_eq_1, q_awl_eq_1, q_awl_eq_2, q_awl_eq_5, q_awl_eq_6, q_awl_eq_7, q_AE_thenL_eq_1, q_initT_eq_1, q_initT_eq_2, q_putK_eq_1, q_vBin_eq_1, q_resV_eq_1, q_binV_eq_1, q_binInt_eq_3, q_cutInt_eq_10, q_vLen_eq_1, q_vFaddr_eq_1, q_loadO_eq_1, q_isV_eq_1, q_vLoad_eq_1, q_ofRow_eq_1, q_pureRow_eq_1, q_pureRow_eq_2, q_isVarO_eq_1, q_boxK_eq_1, q_freeB_eq_1, q_freeT_eq_1, q_freeT_eq_2, q_freeO_eq_1, q_V_noRef_eq_1, q_V_noRef_eq_2, q_K_noRef_eq_1, q_Option_map_some, q_List_map_cons, q_List_map_nil, q_List_take_succ_cons, q_List_take_zero, q_List_drop_succ_cons, q_List_drop_zero, q_List_length_cons, q_List_length_nil, true_and, if_true, if_false, Bool.false_eq_true, Bool.and_true, Bool.or_true, Nat.reduceAdd, Nat.reduceBEq, Nat.zero_add, Nat.le_refl, q_learn_eq_1, q_condK_eq_1, q_condB_eq_2, decide_false, List.length_map, lookT_here, lookT_next, lookO_here, uf59, uf59b18, uf59r19, uf59b20, uf59b21, uf59r22, uf59b23, uf59b26, uf59r27, uf59b28, uf59b29, uf59r30, uf59b31]
    rw [uf59l17]
    refine awl_loop (fun x : Nat × Int => [(1, .int .i64 (9 - ((f + 1 : Nat) : Int))), (5, .int .i64 x.2), (11, .k (.c (.list (if (List.map encT t.args).isEmpty = true then 0 else 3) none (List.map encT t.args)))), (12, .int .i64 (t.args.length : Int)), (13, .int .i64 x.1)]) (fun _ => [])
      (fun x => x.1 ≤ t.args.length ∧ 1 ≤ x.2 ∧ x.2 ≤ 60 ∧ measL (meas f) (t.args.drop x.1) x.2 = measL (meas f) t.args 1) (fun x => t.args.length - x.1) (0, 1) rfl rfl ⟨Nat.zero_le _, by simp only []; omega, by simp only []; omega, rfl⟩ ?_
    rintro ⟨i, n⟩ ⟨hi, hn1, hn2, hj⟩
    simp only [] at hi hn1 hn2 hj
    by_cases hlt : i < t.args.length
    · have c1 : (i : Int) < t.args.length := by omega
      have c3 : IntKind.i64.wrap (9 - ((f + 1 : Nat) : Int) + 1) = 9 - (f : Int) := by rw [wrap_in (by omega) (by omega)]; omega
      have c4 : IntKind.i64.wrap ((i : Int) + 1) = (i : Int) + 1 := wrap_in (by omega) (by omega)
      simp only [encT_eq, lstC, map_len, map_isEmpty, sz_of hlt, map_at hlt, c1, c3, not_true_eq_false, q_wpLs_eq_1, q_wpLs_eq_2, q_wpL_eq_1, q_exL_eq_1, q_exL_eq_4, q_exL_eq_8, q_exL_eq_9, q_exL_eq_11, q_exL_eq_23, q_exL_eq_28, q_look_eq_1, q_look_eq_2, q_lookO_eq_1, q_insT_eq_1, q_insO_eq_1, q_awl_eq_1, q_awl_eq_2, q_awl_eq_5, q_awl_eq_6, q_awl_eq_7, q_AE_thenL_eq_1, q_putK_eq_1, q_vBin_eq_1, q_resV_eq_1, q_binV_eq_1, q_binInt_eq_3, q_cutInt_eq_1, q_cutInt_eq_8, q_partV_eq_1, q_loadO_eq_1, q_isV_eq_1, q_vLoad_eq_1, q_vLoad_eq_2, q_vIaddr_eq_1, q_ofRow_eq_2, q_pureRow_eq_1, q_pureRow_eq_2, q_V_cells_eq_2, q_splice_eq_1, q_stVarK_eq_1, q_storeK_eq_1, q_freeB_eq_1, q_freeT_eq_1, q_freeT_eq_2, q_freeO_eq_1, q_V_noRef_eq_1, q_V_noRef_eq_2, q_K_noRef_eq_1, q_K_noRef_eq_5, q_Option_map_some, q_List_map_cons, q_List_map_nil, q_List_take_succ_cons, q_List_take_zero, q_List_drop_succ_cons, q_List_drop_zero, q_List_nil_append, q_List_length_cons, q_List_length_nil, true_and, if_true, and_self, Bool.and_true, Bool.or_true, List.append_nil, Nat.reduceAdd, Nat.reduceBEq, Nat.zero_add, Int.toNat_natCast, Nat.le_refl, Int.natCast_nonneg, q_learn_eq_1, q_condK_eq_1, q_condB_eq_1, decide_true, List.length_map, lookT_here, lookT_next, lookO_here, uf59r3, uf59r7, uf59b8, uf59r9, uf59b10, uf59b11, uf59b12, uf59b13, uf59b14, uf59r15, uf59b16]
      have hb := meas_bd f t.args[i]
      have c5 : IntKind.i64.wrap (n + meas f t.args[i]) = n + meas f t.args[i] := wrap_in (by omega) (by omega)
      refine call_scalar (ih t.args[i] (by omega)) rfl (by simp [lendL, V.norm, C.norm, ← norm_T, map_isEmpty]) rfl ?_
      simp only [c4, c5, q_wpLs_eq_1, q_wpLs_eq_2, q_wpL_eq_1, q_exL_eq_1, q_exL_eq_11, q_look_eq_1, q_look_eq_2, q_insT_eq_1, q_awl_eq_1, q_awl_eq_2, q_awl_eq_5, q_awl_eq_6, q_awl_eq_9, q_awl_eq_10, q_AE_thenL_eq_1, q_AE_thenL_eq_2, q_AE_inBlockL_eq_1, q_AE_inBlockL_eq_2, q_putK_eq_1, q_vBin_eq_1, q_resV_eq_1, q_binV_eq_1, q_binInt_eq_3, q_cutInt_eq_1, q_cutInt_eq_10, q_mapT_eq_1, q_mapT_eq_2, q_mapO_eq_1, q_mapO_eq_2, q_endK_eq_2, q_endL_eq_1, q_endV_eq_1, q_resL_eq_1, q_resL_eq_2, q_resX_eq_1, q_one_eq_1, q_V_nrm_eq_1, q_V_nrm_eq_2, q_K_nrm_eq_1, q_K_nrm_eq_2, q_K_nrm_eq_3, q_O_nrm_eq_1, q_V_owns_eq_1, q_K_owns_eq_2, q_V_toNew_eq_1, q_K_toNew_eq_1, q_C_norm_eq_1, q_C_norm_eq_4, q_C_norm_eq_5, q_C_normRow_eq_1, q_C_normRow_eq_2, q_C_normRows_eq_1, q_List_map_cons, q_List_map_nil, q_List_isEmpty_nil, true_and, if_true, if_false, and_self, List.nodup_nil, Nat.reduceBEq, Nat.zero_ne_one, q_learn_eq_1, q_condK_eq_1, condB_decide, normRows_T, lookT_here, lookT_next, uf59r1, uf59b2, uf59b4, uf59r5, uf59b6]
      refine ⟨fun h6 => ?_, fun h6 => ?_⟩
      · rw [meas, ← hj, measL_drop hlt, if_pos h6]
      · refine Next.intro (i + 1, n + meas f t.args[i]) rfl rfl ⟨by simp only []; omega, by simp only []; omega, by simp only []; omega, ?_⟩ (by simp only []; omega)
        rw [← hj, measL_drop hlt, if_neg h6]
    · have c1 : ¬ (i : Int) < t.args.length := by omega
      simp only [encT_eq, lstC, map_len, c1, not_true_eq_false, not_false_eq_true, q_wpLs_eq_1, q_wpLs_eq_2, q_wpL_eq_1, q_exL_eq_1, q_exL_eq_11, q_look_eq_1, q_lookO_eq_1, q_insT_eq_1, q_awl_eq_2, q_awl_eq_5, q_awl_eq_6, q_awl_eq_9, q_awl_eq_10, q_AE_thenL_eq_1, q_AE_thenL_eq_2, q_AE_inBlockL_eq_2, q_putK_eq_1, q_vBin_eq_1, q_resV_eq_1, q_binV_eq_1, q_binInt_eq_3, q_cutInt_eq_8, q_mapT_eq_1, q_mapT_eq_2, q_mapO_eq_1, q_endK_eq_2, q_endL_eq_1, q_endV_eq_1, q_resL_eq_1, q_resL_eq_2, q_resX_eq_1, q_one_eq_1, q_V_nrm_eq_1, q_K_nrm_eq_1, q_V_owns_eq_1, q_K_owns_eq_2, q_V_toNew_eq_1, q_K_toNew_eq_1, q_C_norm_eq_1, q_C_norm_eq_4, q_C_norm_eq_5, true_and, if_true, and_self, List.nodup_nil, Nat.reduceBEq, q_learn_eq_1, q_condK_eq_1, q_condB_eq_2, decide_false, normRows_T, lookT_here, lookT_next, uf59r1, uf59b2, uf59b13, uf59b14, uf59r15, uf59b16]
      rw [meas, ← hj, List.drop_eq_nil_of_le (by omega), measL]
end Go.Abs


set_option maxRecDepth 100000
namespace Go.Abs
open Go.Proofs
theorem s72 (op : Int) : Spec Try.prog 72 [.int .i64 op] (fun r => r = shapeV op) := by
  refine Spec.of_awl hf72 okf72 (by simp) ?_
  simp only [q_wpLs_eq_1, q_wpLs_eq_2, q_wpL_eq_1, q_exL_eq_1, q_exL_eq_4, q_exL_eq_6, q_exL_eq_7, q_exL_eq_9, q_exL_eq_11, q_look_eq_1, q_look_eq_2, q_insT_eq_1, q_insO_eq_1, q_awl_eq_1, q_awl_eq_2, q_awl_eq_5, q_awl_eq_6, q_awl_eq_7, q_awl_eq_10, q_AE_thenL_eq_1, q_AE_thenL_eq_3, q_AE_inBlockL_eq_1, q_AE_inBlockL_eq_3, q_initT_eq_1, q_initT_eq_2, q_putK_eq_1, q_vBin_eq_1, q_resV_eq_1, q_binV_eq_1, q_binInt_eq_3, q_cutInt_eq_6, q_vBuild_eq_1, q_vBuild_eq_2, q_rowV_eq_1, q_ofRow_eq_2, q_pureRow_eq_3, q_V_cells_eq_1, q_V_cells_eq_3, q_splice_eq_1, q_isArrO_eq_1, q_vRow_eq_1, q_vLits_eq_1, q_vLits_eq_2, q_bsK_eq_1, q_stVarK_eq_1, q_storeK_eq_1, q_mapT_eq_1, q_mapT_eq_2, q_mapO_eq_1, q_mapO_eq_2, q_freeB_eq_1, q_freeT_eq_1, q_freeT_eq_2, q_freeO_eq_1, q_freeO_eq_2, q_V_noRef_eq_1, q_K_noRef_eq_1, q_K_noRef_eq_3, q_O_noRef_eq_1, q_endK_eq_2, q_endL_eq_1, q_endV_eq_1, q_resL_eq_1, q_resL_eq_2, q_resX_eq_2, q_resCell_eq_1, q_one_eq_1, q_V_nrm_eq_1, q_V_nrm_eq_3, q_K_nrm_eq_1, q_K_nrm_eq_3, q_O_nrm_eq_1, q_O_nrm_eq_2, q_V_owns_eq_2, q_K_owns_eq_1, q_K_owns_eq_2, q_V_toNew_eq_3, q_K_toNew_eq_1, q_K_toNew_eq_2, q_C_norm_eq_1, q_C_norm_eq_4, q_C_norm_eq_5, q_C_normRow_eq_1, q_C_normRow_eq_2, q_C_normRows_eq_1, q_C_normRows_eq_2, q_List_map_cons, q_List_map_nil, q_List_take_succ_cons, q_List_take_zero, q_List_drop_succ_cons, q_List_drop_zero, q_List_nil_append, q_List_cons_append, q_List_foldl_cons, q_List_foldl_nil, q_List_replicate_succ, q_List_replicate_zero, q_List_set_cons_zero, q_List_set_cons_succ, q_List_length_cons, q_List_length_nil, q_List_flatMap_cons, q_List_flatMap_nil, q_List_all_cons, q_List_all_nil, q_List_isEmpty_nil, true_and, if_true, forall_eq_or_imp, forall_eq, or_false, and_self, bne_iff_ne, ne_eq, Bool.and_true, Bool.true_and, Bool.or_true, Bool.false_or, Int.reduceNeg, List.append_nil, List.mem_cons, List.nodup_nil, List.nodup_cons, Nat.reduceAdd, Nat.reduceEqDiff, Nat.reduceLeDiff, Nat.reduceLT, Nat.reduceBEq, Nat.zero_add, Nat.le_refl, q_learn_eq_1, not_false_eq_true, q_condK_eq_1, q_condB_eq_1, condB_beq, lookT_here, lookT_next, lookO_here, lookO_next, List.not_mem_nil, uf72, uf72r1, uf72b2, uf72r3, uf72b4, uf72r5, uf72b6, uf72r7, uf72b8, uf72r9, uf72b10, uf72r11, uf72b12, uf72b13, uf72r14, uf72b15, uf72b16, uf72r17, uf72b18, uf72b19, uf72r20, uf72b21, uf72b22, uf72r23, uf72b24, uf72r25, uf72b26, uf72b27, uf72b28, uf72r29, uf72b30, uf72b31, uf72r32, uf72b33, uf72b34, uf72r35, uf72b36]
  repeat' (first | apply And.intro | intro _)
  all_goals simp_all [shapeV, shapeArgs, shapeRes, ints]
end Go.Abs


set_option maxRecDepth 100000
set_option maxHeartbeats 4000000
namespace Go.Abs
open Go.Proofs
theorem s60 : ∀ (f : Nat) (t : Term), Narrow f t → Spec Try.prog 60 [.agg (encT t)] (fun r => r = pairV (chk t)) := by
  intro f
  induction f with
  | zero => intro t h; exact h.elim
  | succ f ih =>
    intro t hN
    refine Spec.of_awl hf60 okf60 (by simp) ?_
    have hlen : t.args.length ≤ 1000 := hN.1
    simp only [encT_eq t, q_wpLs_eq_1, q_wpLs_eq_2, q_wpL_eq_1, q_exL_eq_1, q_exL_eq_5, q_exL_eq_8, q_exL_eq_18, q_exL_eq_21, q_exL_eq_30, q_look_eq_1, q_look_eq_2, q_insT_eq_1, q_insO_eq_1, q_awl_eq_2, q_awl_eq_5, q_awl_eq_7, q_AE_thenL_eq_1, q_initT_eq_1, q_initT_eq_2, q_putK_eq_1, q_vFaddr_eq_1, q_loadO_eq_1, q_isV_eq_1, q_vLoad_eq_1, q_ofRow_eq_1, q_pureRow_eq_1, q_pureRow_eq_2, q_isVarO_eq_1, q_boxK_eq_1, q_mkslK_eq_1, q_freeB_eq_1, q_freeT_eq_1, q_freeT_eq_2, q_freeO_eq_1, q_freeO_eq_2, q_V_noRef_eq_1, q_V_noRef_eq_2, q_K_noRef_eq_1, q_K_noRef_eq_3, q_O_noRef_eq_1, q_Option_map_some, q_List_map_cons, q_List_map_nil, q_List_take_succ_cons, q_List_take_zero, q_List_drop_succ_cons, q_List_drop_zero, q_List_length_cons, q_List_length_nil, q_List_all_cons, q_List_all_nil, true_and, if_false, Bool.false_eq_true, and_self, bne_iff_ne, ne_eq, Bool.and_eq_true, Bool.and_true, Bool.true_and, Bool.or_true, Bool.false_or, Nat.reduceAdd, Nat.reduceEqDiff, Nat.reduceBEq, Nat.zero_add, Int.toNat_natCast, Nat.le_refl, Int.natCast_nonneg, not_false_eq_true, r_vLen_lst, List.length_map, lookT_here, lookT_next, Int.cast_ofNat_Int, lookO_here, lookO_next, uf60, uf60b79, uf60r80, uf60b81, uf60b82, uf60r83, uf60b84, uf60r85, uf60b86]
    refine ⟨by omega, by omega, by omega, ?_⟩
    rw [uf60l78]
    refine awl_loop (fun x : Nat × List Int => [(1, .k (.ptr 1 0)), (4, .k (.own 16)), (18, lst 3 (t.args.map encT)), (19, .int .i64 (t.args.length : Int)), (20, .int .i64 x.1)])
      (fun x => [(1, .var 41 [.c (.int .i64 t.op), .c (.int .i64 t.n), .c (lstC 3 (t.args.map encT))]), (16, .arr 3 1 (some false) (ints x.2 ++ List.replicate (t.args.length - x.1) [.int .i64 0]))])
      (fun x => x.1 ≤ t.args.length ∧ x.2.length = x.1 ∧ chkA (t.args.drop x.1) x.2 = chkA t.args []) (fun x => t.args.length - x.1) (0, []) rfl rfl ?_ ?_
    · exact ⟨Nat.zero_le _, rfl, rfl⟩
    rintro ⟨i, ty⟩ ⟨hi, hty, hj⟩
    simp only [] at hi hty hj
    by_cases hlt : i < t.args.length
    · have c1 : (i : Int) < t.args.length := by omega
      have c4 : IntKind.i64.wrap ((i : Int) + 1) = (i : Int) + 1 := wrap_in (by omega) (by omega)
      simp only [map_at hlt, encT_len, c1, q_wpLs_eq_1, q_wpLs_eq_2, q_wpL_eq_1, q_exL_eq_1, q_exL_eq_4, q_exL_eq_8, q_exL_eq_9, q_exL_eq_11, q_exL_eq_23, q_exL_eq_28, q_look_eq_1, q_insT_eq_1, q_insO_eq_1, q_awl_eq_1, q_awl_eq_2, q_awl_eq_5, q_awl_eq_6, q_awl_eq_7, q_AE_thenL_eq_1, q_putK_eq_1, q_vBin_eq_1, q_resV_eq_1, q_binV_eq_1, q_binInt_eq_3, q_cutInt_eq_8, q_partV_eq_1, q_loadO_eq_1, q_isV_eq_1, q_vLoad_eq_1, q_vLoad_eq_2, q_V_cells_eq_2, q_splice_eq_1, q_stVarK_eq_1, q_storeK_eq_1, q_freeB_eq_1, q_freeT_eq_1, q_freeT_eq_2, q_freeO_eq_1, q_freeO_eq_2, q_V_noRef_eq_1, q_V_noRef_eq_2, q_K_noRef_eq_1, q_K_noRef_eq_2, q_K_noRef_eq_3, q_K_noRef_eq_5, q_O_noRef_eq_1, q_O_noRef_eq_2, q_List_map_cons, q_List_map_nil, q_List_take_zero, q_List_drop_succ_cons, q_List_drop_zero, q_List_nil_append, q_List_length_cons, q_List_length_nil, q_List_all_cons, q_List_all_nil, true_and, if_true, and_self, bne_iff_ne, ne_eq, Bool.and_eq_true, Bool.and_true, Bool.true_and, Bool.or_true, Bool.false_or, List.append_nil, Nat.reduceAdd, Nat.reduceEqDiff, Nat.reduceBEq, Nat.zero_add, Int.toNat_natCast, Nat.le_refl, Int.natCast_nonneg, q_learn_eq_1, not_false_eq_true, q_condK_eq_1, q_condB_eq_1, decide_true, r_vIaddr_lst, List.length_map, r_ofRow_take, encT_len, lookT_here, lookT_next, lookO_here, uf60r60, uf60r68, uf60b69, uf60r70, uf60b71, uf60b72, uf60b73, uf60b74, uf60b75, uf60r76, uf60b77]
      refine call_s (ih t.args[i] (hN.2 _ (List.getElem_mem hlt))) ?_
      simp only [c4, pairV, q_wpLs_eq_1, q_wpLs_eq_2, q_wpL_eq_1, q_exL_eq_1, q_exL_eq_9, q_exL_eq_11, q_exL_eq_23, q_exL_eq_27, q_look_eq_1, q_look_eq_2, q_insT_eq_1, q_insO_eq_1, q_awl_eq_1, q_awl_eq_2, q_awl_eq_5, q_awl_eq_6, q_awl_eq_10, q_AE_thenL_eq_1, q_AE_thenL_eq_3, q_AE_inBlockL_eq_1, q_AE_inBlockL_eq_3, q_putK_eq_1, q_vBin_eq_1, q_resV_eq_1, q_binV_eq_1, q_binInt_eq_3, q_cutInt_eq_1, q_cutInt_eq_7, q_vExtr_eq_1, q_vIaddr_eq_2, q_idxO_eq_1, q_splice_eq_1, q_vRow_eq_1, q_stArrK_eq_1, q_storeK_eq_2, q_mapT_eq_1, q_mapT_eq_2, q_mapO_eq_1, q_mapO_eq_2, q_endK_eq_2, q_endL_eq_1, q_endV_eq_1, q_resL_eq_1, q_resL_eq_2, q_resX_eq_1, q_one_eq_2, q_V_nrm_eq_1, q_V_nrm_eq_2, q_V_nrm_eq_4, q_K_nrm_eq_1, q_K_nrm_eq_2, q_K_nrm_eq_3, q_V_nrmL_eq_1, q_V_nrmL_eq_2, q_O_nrm_eq_1, q_O_nrm_eq_2, q_V_owns_eq_1, q_V_owns_eq_3, q_K_owns_eq_2, q_V_ownsL_eq_1, q_V_ownsL_eq_2, q_V_toNew_eq_1, q_V_toNew_eq_4, q_K_toNew_eq_1, q_V_toNewL_eq_1, q_V_toNewL_eq_2, q_C_norm_eq_1, q_C_norm_eq_4, q_C_norm_eq_5, q_C_normRows_eq_1, q_List_map_cons, q_List_map_nil, q_List_take_zero, q_List_nil_append, q_List_cons_append, q_List_length_cons, q_List_length_nil, q_List_getElemQ_cons_zero, q_List_getElemQ_cons_succ, q_List_isEmpty_nil, true_and, and_true, if_true, and_self, List.append_nil, List.nodup_nil, Nat.reduceBEq, Nat.zero_add, Int.toNat_natCast, Nat.le_refl, Int.natCast_nonneg, q_learn_eq_1, q_condK_eq_1, condB_bne, norm_lst, normRows_T, encT_norm, lookT_here, lookT_next, lookO_here, lookO_next, r_map_nrm, uf60r61, uf60r62, uf60b63, uf60b64, uf60r65, uf60b66, uf60b67]
      refine ⟨fun h6 => ?_, fun h6 => ⟨?_, ?_⟩⟩
      · rw [chkA_drop hlt, if_pos h6] at hj
        rw [chk_eq t, ← hj]
        simp [h6]
      · simp [hty]; omega
      · refine Next.intro (i + 1, ty ++ [(chk t.args[i]).1]) rfl ?_ ⟨by simp only []; omega, by simp [hty], ?_⟩ (by simp only []; omega)
        · rw [set_at hty hlt]; rfl
        · rw [chkA_drop hlt, if_neg (by simp [h6])] at hj
          exact hj
    · have c1 : ¬ (i : Int) < t.args.length := by omega
      have hz : t.args.length - i = 0 := by omega
      simp only [c1, hz, List.replicate_zero, q_wpLs_eq_1, q_wpLs_eq_2, q_wpL_eq_1, q_putDL_eq_1, q_AOp_dst_eq_8, q_AOp_dst_eq_10, q_AOp_dst_eq_20, q_exL_eq_1, q_exL_eq_3, q_exL_eq_8, q_exL_eq_11, q_exL_eq_21, q_exL_eq_28, q_look_eq_1, q_look_eq_2, q_insT_eq_1, q_awl_eq_1, q_awl_eq_2, q_awl_eq_5, q_awl_eq_6, q_awl_eq_7, q_awl_eq_9, q_awl_eq_10, q_AE_thenL_eq_1, q_AE_thenL_eq_2, q_AE_thenL_eq_3, q_AE_inBlockL_eq_1, q_AE_inBlockL_eq_2, q_AE_inBlockL_eq_3, q_putK_eq_1, q_vBin_eq_1, q_resV_eq_1, q_binV_eq_1, q_binInt_eq_3, q_cutInt_eq_6, q_cutInt_eq_8, q_cutInt_eq_10, q_vFaddr_eq_1, q_loadO_eq_1, q_isV_eq_1, q_vLoad_eq_1, q_vPick_eq_1, q_vPick_eq_2, q_ofRow_eq_1, q_ofRow_eq_2, q_pureRow_eq_1, q_pureRow_eq_2, q_isVarO_eq_1, q_mapT_eq_1, q_mapT_eq_2, q_mapO_eq_1, q_mapO_eq_2, q_endK_eq_2, q_endL_eq_1, q_endV_eq_1, q_resL_eq_1, q_resL_eq_2, q_resX_eq_1, q_one_eq_2, q_V_nrm_eq_1, q_V_nrm_eq_5, q_K_nrm_eq_1, q_K_nrm_eq_3, q_O_nrm_eq_1, q_O_nrm_eq_2, q_V_owns_eq_1, q_V_owns_eq_3, q_K_owns_eq_2, q_V_ownsL_eq_1, q_V_ownsL_eq_2, q_V_toNew_eq_1, q_V_toNew_eq_4, q_K_toNew_eq_1, q_V_toNewL_eq_1, q_V_toNewL_eq_2, q_C_norm_eq_4, q_C_norm_eq_5, q_Bool_not_false, q_Option_map_some, q_List_map_cons, q_List_map_nil, q_List_take_succ_cons, q_List_take_zero, q_List_drop_zero, q_List_length_cons, q_List_length_nil, true_and, if_true, if_false, Bool.false_eq_true, and_self, List.append_nil, List.nodup_nil, Nat.reduceAdd, Nat.reduceLeDiff, Nat.reduceBEq, Nat.zero_add, Nat.add_zero, Nat.le_refl, q_learn_eq_1, q_guardP_eq_2, q_condK_eq_1, q_condB_eq_1, q_condB_eq_2, q_exK_eq_1, condB_decide, condB_beq, decide_false, norm_lst, normRows_T, normRows_ints, lookT_here, lookT_next, lookO_here, uf60r46, uf60b47, uf60r48, uf60b49, uf60r50, uf60b51, uf60b52, uf60r53, uf60b54, uf60b55, uf60r56, uf60b57, uf60b58, uf60b59, uf60b74, uf60b75, uf60r76, uf60b77]
      rw [List.drop_eq_nil_of_le (by omega), chkA] at hj
      have e : chk t = node t ty := by rw [chk_eq t, ← hj]; simp
      rw [e]
      clear ih hj e
      repeat' (first | with_reducible refine And.intro ?_ ?_ | with_reducible intro _)
      any_goals (refine call_s (s71 t) ?_; simp only [pairV, q_wpLs_eq_1, q_wpLs_eq_2, q_wpL_eq_1, q_exL_eq_1, q_exL_eq_27, q_look_eq_1, q_insT_eq_1, q_awl_eq_10, q_AE_thenL_eq_3, q_AE_inBlockL_eq_3, q_putK_eq_1, q_vExtr_eq_1, q_mapT_eq_1, q_mapT_eq_2, q_mapO_eq_1, q_mapO_eq_2, q_endK_eq_2, q_endL_eq_1, q_endV_eq_1, q_resL_eq_1, q_resL_eq_2, q_resX_eq_1, q_one_eq_2, q_V_nrm_eq_1, q_V_nrm_eq_2, q_V_nrm_eq_4, q_V_nrm_eq_5, q_K_nrm_eq_1, q_K_nrm_eq_3, q_V_nrmL_eq_1, q_V_nrmL_eq_2, q_O_nrm_eq_1, q_O_nrm_eq_2, q_V_owns_eq_1, q_V_owns_eq_3, q_K_owns_eq_2, q_V_ownsL_eq_1, q_V_ownsL_eq_2, q_V_toNew_eq_1, q_V_toNew_eq_4, q_K_toNew_eq_1, q_V_toNewL_eq_1, q_V_toNewL_eq_2, q_C_norm_eq_4, q_C_norm_eq_5, q_C_normRow_eq_1, q_C_normRow_eq_2, q_List_map_cons, q_List_map_nil, q_List_getElemQ_cons_zero, q_List_getElemQ_cons_succ, true_and, and_self, List.append_nil, List.nodup_nil, Nat.reduceBEq, norm_lst, normRows_T, normRows_ints, lookT_here, lookT_next])
      all_goals try (simp_all [node, pairV]; done)
      refine call_r (s72 t.op) ?_
      simp only [shapeV, q_wpLs_eq_1, q_wpLs_eq_2, q_wpL_eq_1, q_putDL_eq_1, q_AOp_dst_eq_8, q_AOp_dst_eq_10, q_AOp_dst_eq_20, q_exL_eq_1, q_exL_eq_3, q_exL_eq_4, q_exL_eq_8, q_exL_eq_9, q_exL_eq_11, q_exL_eq_21, q_exL_eq_30, q_look_eq_1, q_look_eq_2, q_lookT_eq_1, q_insT_eq_1, q_insO_eq_1, q_awl_eq_1, q_awl_eq_2, q_awl_eq_5, q_awl_eq_6, q_awl_eq_7, q_awl_eq_10, q_AE_thenL_eq_1, q_AE_thenL_eq_3, q_putK_eq_1, q_vBin_eq_1, q_resV_eq_1, q_binV_eq_1, q_binInt_eq_3, q_cutInt_eq_7, q_vLen_eq_2, q_lenO_eq_1, q_vFaddr_eq_1, q_loadO_eq_1, q_isV_eq_1, q_vLoad_eq_1, q_vPick_eq_1, q_vPick_eq_2, q_ofRow_eq_1, q_pureRow_eq_1, q_pureRow_eq_2, q_pureRow_eq_3, q_V_cells_eq_3, q_splice_eq_1, q_isVarO_eq_1, q_stVarK_eq_1, q_storeK_eq_1, q_mapT_eq_1, q_mapT_eq_2, q_mapO_eq_1, q_mapO_eq_2, q_freeB_eq_1, q_freeT_eq_1, q_freeT_eq_2, q_freeO_eq_1, q_freeO_eq_2, q_V_noRef_eq_1, q_V_noRef_eq_3, q_V_noRef_eq_6, q_K_noRef_eq_1, q_K_noRef_eq_2, q_K_noRef_eq_3, q_O_noRef_eq_1, q_O_noRef_eq_2, q_endK_eq_2, q_endL_eq_1, q_endV_eq_1, q_resL_eq_1, q_resL_eq_2, q_resX_eq_1, q_one_eq_2, q_V_nrm_eq_1, q_V_nrm_eq_3, q_V_nrm_eq_5, q_K_nrm_eq_1, q_K_nrm_eq_3, q_O_nrm_eq_1, q_O_nrm_eq_2, q_V_owns_eq_1, q_V_owns_eq_3, q_K_owns_eq_2, q_V_ownsL_eq_1, q_V_ownsL_eq_2, q_V_toNew_eq_1, q_V_toNew_eq_4, q_K_toNew_eq_1, q_V_toNewL_eq_1, q_V_toNewL_eq_2, q_C_norm_eq_1, q_C_norm_eq_4, q_C_norm_eq_5, q_C_normRows_eq_1, q_regN_eq_2, q_V_reg_eq_2, q_K_regs_eq_1, q_K_regs_eq_2, q_K_regs_eq_3, q_freesL_eq_1, q_freesL_eq_2, q_addsL_eq_1, q_addsL_eq_2, q_regK_eq_1, q_retK_eq_2, q_Bool_not_false, q_Option_map_some, q_List_map_cons, q_List_map_nil, q_List_take_succ_cons, q_List_take_zero, q_List_drop_succ_cons, q_List_drop_zero, q_List_nil_append, q_List_length_cons, q_List_length_nil, q_List_all_cons, q_List_all_nil, q_List_isEmpty_nil, true_and, if_true, if_false, Bool.false_eq_true, or_true, and_self, bne_iff_ne, ne_eq, Bool.and_eq_true, Bool.and_true, Bool.true_and, Bool.or_true, Bool.false_or, Int.reduceNeg, List.append_nil, List.nodup_nil, Nat.reduceAdd, Nat.reduceMul, Nat.reduceEqDiff, Nat.reduceLeDiff, Nat.reduceBEq, Nat.zero_add, Nat.add_zero, Nat.le_refl, q_learn_eq_1, not_false_eq_true, q_guardP_eq_2, q_condK_eq_1, q_condB_eq_1, q_condB_eq_2, q_exK_eq_1, condB_bne, norm_lst, normRows_T, normRows_ints, ints_len, lookT_here, lookT_next, lookO_here, lookO_next, uf60b34, uf60r35, uf60b36, uf60b37, uf60r38, uf60b39, uf60r40, uf60b41, uf60b42, uf60r43, uf60b44, uf60b45]
      refine ⟨fun h1 => ?_, fun h1 => ⟨fun h2 => ?_, fun h2 => ?_⟩⟩
      · have h1' : ty.length ≠ (shapeArgs t.op).length := by omega
        have a1 : ¬ (t.op < 0 ∨ t.op > 13) := by omega
        have a2 : ¬ (t.op = 0 ∨ t.op = 1 ∨ t.op = 2) := by omega
        simp only [node, pairV, if_neg a1, if_neg a2, if_pos (Or.inl h1' : ty.length ≠ (shapeArgs t.op).length ∨ t.n ≠ 0)]
      · have a1 : ¬ (t.op < 0 ∨ t.op > 13) := by omega
        have a2 : ¬ (t.op = 0 ∨ t.op = 1 ∨ t.op = 2) := by omega
        simp only [node, pairV, if_neg a1, if_neg a2, if_pos (Or.inr h2 : ty.length ≠ (shapeArgs t.op).length ∨ t.n ≠ 0)]
      · have hl : ty.length = (shapeArgs t.op).length := by omega
        have hs3 := shape_small t.op
        have hnode : node t ty = match fit (shapeArgs t.op) ty (-1) with
            | none => (0, 11)
            | some c => if shapeRes t.op = -1 then (c, 0) else (shapeRes t.op, 0) := by
          have a1 : ¬ (t.op < 0 ∨ t.op > 13) := by omega
          have a2 : ¬ (t.op = 0 ∨ t.op = 1 ∨ t.op = 2) := by omega
          simp only [node, if_neg a1, if_neg a2, hl, h2, ne_eq, not_true_eq_false, or_self, if_false]
          all_goals rfl
        rw [uf60l33]
        refine awl_loop (fun x : Nat × Int => [(4, .k (.own 16)), (9, .k (.ptr 9 0)), (10, .int .i64 x.2), (80, .k (.own 68000)), (81, .int .i64 ((shapeArgs t.op).length : Int)), (82, .int .i64 x.1)])
          (fun _ => [(9, .var 92 [.own 68000, .c (.int .i64 (shapeRes t.op))]), (16, .arr 3 1 (some false) (ints ty)), (68000, .arr 3 1 none (ints (shapeArgs t.op)))])
          (fun x => x.1 ≤ (shapeArgs t.op).length ∧ fit ((shapeArgs t.op).drop x.1) (ty.drop x.1) x.2 = fit (shapeArgs t.op) ty (-1)) (fun x => (shapeArgs t.op).length - x.1) (0, -1) rfl rfl ⟨Nat.zero_le _, rfl⟩ ?_
        rintro ⟨j, c⟩ ⟨hj1, hj2⟩
        simp only [] at hj1 hj2
        by_cases hlj : j < (shapeArgs t.op).length
        · have d1 : (j : Int) < (shapeArgs t.op).length := by omega
          have hlj2 : j < ty.length := by omega
          have d2 : (j : Int) < ty.length := by omega
          have d4 : IntKind.i64.wrap ((j : Int) + 1) = (j : Int) + 1 := wrap_in (by omega) (by omega)
          rw [fit_drop hlj hlj2] at hj2
          have hfail : ty[j] ≠ (if (shapeArgs t.op)[j] = -1 then (if (shapeArgs t.op)[j] = -1 ∧ c = -1 then ty[j] else c) else (shapeArgs t.op)[j]) → pairV (node t ty) = pairV (0, 11) := by
            intro hne
            rw [if_pos hne] at hj2
            rw [hnode, ← hj2]
          have hgo : ∀ c', c' = (if (shapeArgs t.op)[j] = -1 ∧ c = -1 then ty[j] else c) → ¬ (ty[j] ≠ (if (shapeArgs t.op)[j] = -1 then (if (shapeArgs t.op)[j] = -1 ∧ c = -1 then ty[j] else c) else (shapeArgs t.op)[j])) → fit ((shapeArgs t.op).drop (j + 1)) (ty.drop (j + 1)) c' = fit (shapeArgs t.op) ty (-1) := by
            rintro c' rfl hne
            rw [if_neg hne] at hj2; exact hj2
          clear hj2 hnode
          by_cases hw : (shapeArgs t.op)[j] = -1 <;> by_cases hc : c = -1
          all_goals simp only [hw, hc, true_and, false_and, and_true, and_false, if_true, if_false, not_true_eq_false, not_false_eq_true, ne_eq] at hfail hgo
          · simp only [d1, d2, d4, hw, hc, ints_at hlj, ints_at hlj2, q_wpLs_eq_1, q_wpLs_eq_2, q_wpL_eq_1, q_AOp_dst_eq_1, q_AOp_dst_eq_10, q_exL_eq_1, q_exL_eq_3, q_exL_eq_8, q_exL_eq_11, q_exL_eq_23, q_look_eq_1, q_look_eq_2, q_insT_eq_1, q_awl_eq_1, q_awl_eq_2, q_awl_eq_5, q_awl_eq_6, q_awl_eq_7, q_awl_eq_10, q_AE_thenL_eq_1, q_AE_thenL_eq_3, q_AE_inBlockL_eq_1, q_AE_inBlockL_eq_3, q_putK_eq_1, q_vBin_eq_1, q_resV_eq_1, q_binV_eq_1, q_binInt_eq_3, q_cutInt_eq_1, q_cutInt_eq_6, q_cutInt_eq_7, q_cutInt_eq_8, q_partV_eq_2, q_loadO_eq_2, q_isA_eq_1, q_vLoad_eq_3, q_vIaddr_eq_2, q_idxO_eq_1, q_vPick_eq_1, q_mapT_eq_1, q_mapT_eq_2, q_mapO_eq_1, q_mapO_eq_2, q_endK_eq_2, q_endL_eq_1, q_endV_eq_1, q_resL_eq_1, q_resL_eq_2, q_resX_eq_1, q_one_eq_2, q_V_nrm_eq_1, q_K_nrm_eq_1, q_K_nrm_eq_3, q_O_nrm_eq_1, q_O_nrm_eq_2, q_V_owns_eq_1, q_V_owns_eq_3, q_K_owns_eq_2, q_V_ownsL_eq_1, q_V_ownsL_eq_2, q_V_toNew_eq_1, q_V_toNew_eq_4, q_K_toNew_eq_1, q_V_toNewL_eq_1, q_V_toNewL_eq_2, q_C_norm_eq_4, q_C_norm_eq_5, q_Bool_not_true, q_List_map_cons, q_List_map_nil, q_List_getD_cons_zero, true_and, if_true, false_implies, forall_const, and_self, Int.reduceNeg, BEq.rfl, List.append_nil, List.nodup_nil, Nat.reduceBEq, Nat.zero_add, Int.toNat_natCast, Nat.le_refl, Int.natCast_nonneg, q_learn_eq_1, not_true_eq_false, q_guardP_eq_1, q_condK_eq_1, q_condB_eq_1, q_exK_eq_1, condB_bne, decide_true, normRows_ints, ints_len, lookT_here, lookT_next, lookO_here, lookO_next, uf60r9, uf60r10, uf60b11, uf60b12, uf60r13, uf60b14, uf60r15, uf60b16, uf60r17, uf60b18, uf60b19, uf60r20, uf60b21, uf60r22, uf60b23, uf60b24, uf60r25, uf60b26, uf60b27, uf60b28, uf60b29, uf60b30, uf60r31, uf60b32]
            exact Next.intro (j + 1, ty[j]) rfl rfl ⟨by simp only []; omega, hgo _ rfl (by simp)⟩ (by simp only []; omega)
          · simp only [d1, d2, d4, hw, hc, ints_at hlj, ints_at hlj2, q_wpLs_eq_1, q_wpLs_eq_2, q_wpL_eq_1, q_AOp_dst_eq_1, q_AOp_dst_eq_10, q_exL_eq_1, q_exL_eq_3, q_exL_eq_8, q_exL_eq_11, q_exL_eq_23, q_look_eq_1, q_look_eq_2, q_insT_eq_1, q_awl_eq_1, q_awl_eq_2, q_awl_eq_5, q_awl_eq_6, q_awl_eq_7, q_awl_eq_10, q_AE_thenL_eq_1, q_AE_thenL_eq_3, q_AE_inBlockL_eq_1, q_AE_inBlockL_eq_3, q_putK_eq_1, q_vBin_eq_1, q_resV_eq_1, q_binV_eq_1, q_binInt_eq_3, q_cutInt_eq_1, q_cutInt_eq_6, q_cutInt_eq_7, q_cutInt_eq_8, q_partV_eq_2, q_loadO_eq_2, q_isA_eq_1, q_vLoad_eq_3, q_vIaddr_eq_2, q_idxO_eq_1, q_vPick_eq_1, q_mapT_eq_1, q_mapT_eq_2, q_mapO_eq_1, q_mapO_eq_2, q_endK_eq_2, q_endL_eq_1, q_endV_eq_1, q_resL_eq_1, q_resL_eq_2, q_resX_eq_1, q_one_eq_2, q_V_nrm_eq_1, q_K_nrm_eq_1, q_K_nrm_eq_3, q_O_nrm_eq_1, q_O_nrm_eq_2, q_V_owns_eq_1, q_V_owns_eq_3, q_K_owns_eq_2, q_V_ownsL_eq_1, q_V_ownsL_eq_2, q_V_toNew_eq_1, q_V_toNew_eq_4, q_K_toNew_eq_1, q_V_toNewL_eq_1, q_V_toNewL_eq_2, q_C_norm_eq_4, q_C_norm_eq_5, q_Bool_not_true, q_List_map_cons, q_List_map_nil, q_List_getD_cons_zero, true_and, if_true, false_implies, forall_const, and_self, Int.reduceNeg, BEq.rfl, List.append_nil, List.nodup_nil, Nat.reduceBEq, Nat.zero_add, Int.toNat_natCast, Nat.le_refl, Int.natCast_nonneg, q_learn_eq_1, not_true_eq_false, not_false_eq_true, q_guardP_eq_1, q_condK_eq_1, q_condB_eq_1, q_exK_eq_1, condB_beq, condB_bne, decide_true, normRows_ints, ints_len, lookT_here, lookT_next, lookO_here, lookO_next, uf60r9, uf60r10, uf60b11, uf60b12, uf60r13, uf60b14, uf60r15, uf60b16, uf60r17, uf60b18, uf60b19, uf60r20, uf60b21, uf60r22, uf60b23, uf60b24, uf60r25, uf60b26, uf60b27, uf60b28, uf60b29, uf60b30, uf60r31, uf60b32]
            refine ⟨fun h => ?_, fun h => ?_⟩
            · rw [hfail h]; rfl
            · exact Next.intro (j + 1, c) rfl rfl ⟨by simp only []; omega, hgo _ rfl (by simp [h])⟩ (by simp only []; omega)
          · simp only [d1, d2, d4, hw, hc, ints_at hlj, ints_at hlj2, q_wpLs_eq_1, q_wpLs_eq_2, q_wpL_eq_1, q_putDL_eq_1, q_AOp_dst_eq_1, q_AOp_dst_eq_10, q_exL_eq_1, q_exL_eq_3, q_exL_eq_8, q_exL_eq_11, q_exL_eq_23, q_look_eq_1, q_look_eq_2, q_insT_eq_1, q_awl_eq_1, q_awl_eq_2, q_awl_eq_5, q_awl_eq_6, q_awl_eq_7, q_awl_eq_10, q_AE_thenL_eq_1, q_AE_thenL_eq_3, q_AE_inBlockL_eq_1, q_AE_inBlockL_eq_3, q_putK_eq_1, q_vBin_eq_1, q_resV_eq_1, q_binV_eq_1, q_binInt_eq_3, q_cutInt_eq_1, q_cutInt_eq_6, q_cutInt_eq_7, q_cutInt_eq_8, q_partV_eq_2, q_loadO_eq_2, q_isA_eq_1, q_vLoad_eq_3, q_vIaddr_eq_2, q_idxO_eq_1, q_vPick_eq_1, q_vPick_eq_3, q_mapT_eq_1, q_mapT_eq_2, q_mapO_eq_1, q_mapO_eq_2, q_endK_eq_2, q_endL_eq_1, q_endV_eq_1, q_resL_eq_1, q_resL_eq_2, q_resX_eq_1, q_one_eq_2, q_V_nrm_eq_1, q_V_nrm_eq_5, q_K_nrm_eq_1, q_K_nrm_eq_3, q_O_nrm_eq_1, q_O_nrm_eq_2, q_V_owns_eq_1, q_V_owns_eq_3, q_K_owns_eq_2, q_V_ownsL_eq_1, q_V_ownsL_eq_2, q_V_toNew_eq_1, q_V_toNew_eq_4, q_K_toNew_eq_1, q_V_toNewL_eq_1, q_V_toNewL_eq_2, q_C_norm_eq_4, q_C_norm_eq_5, q_Bool_not_true, q_List_map_cons, q_List_map_nil, q_List_getD_cons_zero, true_and, if_true, false_implies, forall_const, and_self, Int.reduceNeg, BEq.rfl, List.append_nil, List.nodup_nil, Nat.reduceBEq, Nat.zero_add, Int.toNat_natCast, Nat.le_refl, Int.natCast_nonneg, q_learn_eq_1, not_true_eq_false, not_false_eq_true, q_guardP_eq_1, q_condK_eq_1, q_condB_eq_1, q_condB_eq_2, q_exK_eq_1, condB_beq, condB_bne, decide_true, normRows_ints, ints_len, lookT_here, lookT_next, lookO_here, lookO_next, uf60r9, uf60r10, uf60b11, uf60b12, uf60r13, uf60b14, uf60r15, uf60b16, uf60r17, uf60b18, uf60b19, uf60r20, uf60b21, uf60r22, uf60b23, uf60b24, uf60r25, uf60b26, uf60b27, uf60b28, uf60b29, uf60b30, uf60r31, uf60b32]
            refine ⟨fun h => ?_, fun h => ?_⟩
            · rw [hfail h]; rfl
            · exact Next.intro (j + 1, -1) rfl rfl ⟨by simp only []; omega, hgo _ rfl (by simp [h])⟩ (by simp only []; omega)
          · simp only [d1, d2, d4, hw, hc, ints_at hlj, ints_at hlj2, q_wpLs_eq_1, q_wpLs_eq_2, q_wpL_eq_1, q_putDL_eq_1, q_AOp_dst_eq_1, q_AOp_dst_eq_10, q_exL_eq_1, q_exL_eq_3, q_exL_eq_8, q_exL_eq_11, q_exL_eq_23, q_look_eq_1, q_look_eq_2, q_insT_eq_1, q_awl_eq_1, q_awl_eq_2, q_awl_eq_5, q_awl_eq_6, q_awl_eq_7, q_awl_eq_10, q_AE_thenL_eq_1, q_AE_thenL_eq_3, q_AE_inBlockL_eq_1, q_AE_inBlockL_eq_3, q_putK_eq_1, q_vBin_eq_1, q_resV_eq_1, q_binV_eq_1, q_binInt_eq_3, q_cutInt_eq_1, q_cutInt_eq_6, q_cutInt_eq_7, q_cutInt_eq_8, q_partV_eq_2, q_loadO_eq_2, q_isA_eq_1, q_vLoad_eq_3, q_vIaddr_eq_2, q_idxO_eq_1, q_vPick_eq_1, q_vPick_eq_3, q_mapT_eq_1, q_mapT_eq_2, q_mapO_eq_1, q_mapO_eq_2, q_endK_eq_2, q_endL_eq_1, q_endV_eq_1, q_resL_eq_1, q_resL_eq_2, q_resX_eq_1, q_one_eq_2, q_V_nrm_eq_1, q_V_nrm_eq_5, q_K_nrm_eq_1, q_K_nrm_eq_3, q_O_nrm_eq_1, q_O_nrm_eq_2, q_V_owns_eq_1, q_V_owns_eq_3, q_K_owns_eq_2, q_V_ownsL_eq_1, q_V_ownsL_eq_2, q_V_toNew_eq_1, q_V_toNew_eq_4, q_K_toNew_eq_1, q_V_toNewL_eq_1, q_V_toNewL_eq_2, q_C_norm_eq_4, q_C_norm_eq_5, q_Bool_not_true, q_List_map_cons, q_List_map_nil, q_List_getD_cons_zero, true_and, if_true, false_implies, forall_const, and_self, Int.reduceNeg, List.append_nil, List.nodup_nil, Nat.reduceBEq, Nat.zero_add, Int.toNat_natCast, Nat.le_refl, Int.natCast_nonneg, q_learn_eq_1, not_true_eq_false, not_false_eq_true, q_guardP_eq_1, q_condK_eq_1, q_condB_eq_1, q_condB_eq_2, q_exK_eq_1, condB_beq, condB_bne, decide_true, normRows_ints, ints_len, lookT_here, lookT_next, lookO_here, lookO_next, uf60r9, uf60r10, uf60b11, uf60b12, uf60r13, uf60b14, uf60r15, uf60b16, uf60r17, uf60b18, uf60b19, uf60r20, uf60b21, uf60r22, uf60b23, uf60b24, uf60r25, uf60b26, uf60b27, uf60b28, uf60b29, uf60b30, uf60r31, uf60b32]
            refine ⟨fun h => ?_, fun h => ?_⟩
            · rw [hfail h]; rfl
            · exact Next.intro (j + 1, c) rfl rfl ⟨by simp only []; omega, hgo _ rfl (by simp [h])⟩ (by simp only []; omega)
        · have d1 : ¬ (j : Int) < (shapeArgs t.op).length := by omega
          rw [fit_end _ _ _ (List.drop_eq_nil_of_le (by omega))] at hj2
          simp only [d1, q_wpLs_eq_1, q_wpLs_eq_2, q_wpL_eq_1, q_exL_eq_1, q_exL_eq_8, q_exL_eq_11, q_exL_eq_21, q_look_eq_1, q_look_eq_2, q_insT_eq_1, q_awl_eq_1, q_awl_eq_2, q_awl_eq_5, q_awl_eq_6, q_awl_eq_9, q_awl_eq_10, q_AE_thenL_eq_1, q_AE_thenL_eq_2, q_AE_thenL_eq_3, q_AE_inBlockL_eq_2, q_putK_eq_1, q_vBin_eq_1, q_resV_eq_1, q_binV_eq_1, q_binInt_eq_3, q_cutInt_eq_6, q_cutInt_eq_8, q_vFaddr_eq_1, q_loadO_eq_1, q_isV_eq_1, q_vLoad_eq_1, q_ofRow_eq_1, q_pureRow_eq_1, q_pureRow_eq_2, q_isVarO_eq_1, q_mapT_eq_1, q_mapT_eq_2, q_mapO_eq_1, q_mapO_eq_2, q_endK_eq_2, q_endL_eq_1, q_endV_eq_1, q_resL_eq_1, q_resL_eq_2, q_resX_eq_1, q_one_eq_2, q_V_nrm_eq_1, q_K_nrm_eq_1, q_K_nrm_eq_3, q_O_nrm_eq_1, q_O_nrm_eq_2, q_V_owns_eq_1, q_V_owns_eq_3, q_K_owns_eq_2, q_V_ownsL_eq_1, q_V_ownsL_eq_2, q_V_toNew_eq_1, q_V_toNew_eq_4, q_K_toNew_eq_1, q_V_toNewL_eq_1, q_V_toNewL_eq_2, q_C_norm_eq_4, q_C_norm_eq_5, q_Option_map_some, q_List_map_cons, q_List_map_nil, q_List_take_succ_cons, q_List_take_zero, q_List_drop_succ_cons, q_List_drop_zero, q_List_length_cons, q_List_length_nil, true_and, if_true, if_false, Bool.false_eq_true, and_self, Int.reduceNeg, List.append_nil, List.nodup_nil, Nat.reduceAdd, Nat.reduceBEq, Nat.zero_add, Nat.le_refl, q_learn_eq_1, q_condK_eq_1, q_condB_eq_2, condB_beq, decide_false, normRows_ints, lookT_here, lookT_next, lookO_here, uf60r1, uf60b2, uf60r3, uf60b4, uf60b5, uf60r6, uf60b7, uf60b8, uf60b29, uf60b30, uf60r31, uf60b32]
          rw [hnode, ← hj2]
          refine ⟨fun h => ?_, fun h => ?_⟩ <;> simp [pairV, h]
end Go.Abs


set_option maxRecDepth 100000
set_option maxHeartbeats 4000000
namespace Go.Abs
open Go.Proofs
def kindK (op : Int) (l : List Int) : Int := if op = 3 ∨ op = 4 ∨ op = 5 ∨ op = 7 ∨ op = 8 then 1 else if op = 6 then l.getD 1 0 else 0
def kindB (op : Int) (l : List Int) : Bool :=
  if op = 3 then decide (l.getD 0 0 = 1) else if op = 4 ∨ op = 5 then decide (l.getD 0 0 = 1 ∧ l.getD 1 0 = 1) else if op = 6 then decide (l.getD 0 0 = 1 ∧ l.getD 1 0 = l.getD 2 0)
  else if op = 8 then decide (l.getD 0 0 = l.getD 1 0) else decide (l.getD 0 0 = 0 ∧ l.getD 1 0 = 0)
theorem list1 {α : Type} {l : List α} (h : l.length = 1) : ∃ a, l = [a] := by
  match l, h with
  | [a], _ => exact ⟨a, rfl⟩
theorem list2 {α : Type} {l : List α} (h : l.length = 2) : ∃ a b, l = [a, b] := by
  match l, h with
  | [a, b], _ => exact ⟨a, b, rfl⟩
theorem list3 {α : Type} {l : List α} (h : l.length = 3) : ∃ a b c, l = [a, b, c] := by
  match l, h with
  | [a, b, c], _ => exact ⟨a, b, c, rfl⟩
theorem beq_dec (a b : Int) : (a == b) = decide (a = b) := by by_cases h : a = b <;> simp [h]
theorem s30 (t : Term) : Spec Try.prog 30 [.agg (encT t)] (fun r => r = .bool (few t)) := by
  refine Spec.of_awl hf30 okf30 (by simp) ?_
  simp only [q_wpLs_eq_1, q_wpLs_eq_2, q_wpL_eq_1, q_exL_eq_1, q_exL_eq_5, q_exL_eq_8, q_exL_eq_28, q_look_eq_1, q_look_eq_2, q_insT_eq_1, q_insO_eq_1, q_awl_eq_2, q_awl_eq_5, q_AE_thenL_eq_1, q_initT_eq_1, q_initT_eq_2, q_putK_eq_1, q_loadO_eq_1, q_isV_eq_1, q_vLoad_eq_1, q_boxK_eq_1, q_freeB_eq_1, q_freeT_eq_1, q_freeT_eq_2, q_freeO_eq_1, q_V_noRef_eq_2, q_List_map_cons, q_List_map_nil, q_List_drop_zero, true_and, Bool.and_true, Bool.or_true, Nat.reduceBEq, Nat.zero_add, Nat.le_refl, List.length_map, r_ofRow_take, encT_len, lookT_here, lookT_next, lookO_here, uf30, uf30r1, uf30b2, uf30r3, uf30b4]
  refine call_s (s58 20 t 100 (by omega) (by omega) (by omega)) ?_
  simp only [q_wpLs_eq_1, q_wpLs_eq_2, q_wpL_eq_1, q_exL_eq_1, q_exL_eq_11, q_look_eq_1, q_look_eq_2, q_insT_eq_1, q_awl_eq_10, q_putK_eq_1, q_vBin_eq_1, q_resV_eq_1, q_binV_eq_1, q_binInt_eq_3, q_cutInt_eq_11, q_mapT_eq_1, q_mapT_eq_2, q_mapO_eq_1, q_mapO_eq_2, q_endK_eq_2, q_endL_eq_1, q_endV_eq_1, q_resL_eq_1, q_resL_eq_2, q_resX_eq_1, q_one_eq_1, q_V_nrm_eq_1, q_V_nrm_eq_2, q_K_nrm_eq_1, q_K_nrm_eq_3, q_O_nrm_eq_1, q_V_owns_eq_1, q_K_owns_eq_2, q_V_toNew_eq_1, q_K_toNew_eq_1, q_C_norm_eq_4, q_C_norm_eq_5, true_and, if_true, and_self, List.nodup_nil, encT_norm, lookT_here, Int.cast_ofNat_Int, r_map_nrm]
  rfl
theorem s31 (t : Term) : Spec Try.prog 31 [.agg (encT t)] (fun r => r = pairV (checkT t)) := by
  refine Spec.of_awl hf31 okf31 (by simp) ?_
  simp only [q_wpLs_eq_1, q_wpLs_eq_2, q_wpL_eq_1, q_exL_eq_1, q_exL_eq_5, q_exL_eq_8, q_exL_eq_28, q_look_eq_1, q_look_eq_2, q_insT_eq_1, q_insO_eq_1, q_awl_eq_2, q_awl_eq_5, q_AE_thenL_eq_1, q_initT_eq_1, q_initT_eq_2, q_putK_eq_1, q_loadO_eq_1, q_isV_eq_1, q_vLoad_eq_1, q_boxK_eq_1, q_freeB_eq_1, q_freeT_eq_1, q_freeT_eq_2, q_freeO_eq_1, q_V_noRef_eq_2, q_List_map_cons, q_List_map_nil, q_List_drop_zero, true_and, Bool.and_true, Bool.or_true, Nat.reduceBEq, Nat.zero_add, Nat.le_refl, List.length_map, r_ofRow_take, encT_len, lookT_here, lookT_next, lookO_here, uf31, uf31r6, uf31b7, uf31b8, uf31r9, uf31b10]
  refine call_s (s59 8 t (by omega)) ?_
  have hm := meas_check t
  simp only [q_wpLs_eq_1, q_wpLs_eq_2, q_wpL_eq_1, q_exL_eq_1, q_exL_eq_8, q_exL_eq_11, q_exL_eq_28, q_look_eq_1, q_look_eq_2, q_insT_eq_1, q_awl_eq_1, q_awl_eq_2, q_awl_eq_5, q_awl_eq_6, q_awl_eq_10, q_AE_thenL_eq_1, q_AE_thenL_eq_3, q_putK_eq_1, q_vBin_eq_1, q_resV_eq_1, q_binV_eq_1, q_binInt_eq_3, q_cutInt_eq_10, q_loadO_eq_1, q_isV_eq_1, q_vLoad_eq_1, q_mapT_eq_1, q_mapT_eq_2, q_mapO_eq_1, q_mapO_eq_2, q_endK_eq_2, q_endL_eq_1, q_endV_eq_1, q_resL_eq_1, q_resL_eq_2, q_resX_eq_1, q_one_eq_2, q_V_nrm_eq_1, q_V_nrm_eq_2, q_K_nrm_eq_1, q_K_nrm_eq_3, q_O_nrm_eq_1, q_V_owns_eq_1, q_V_owns_eq_3, q_K_owns_eq_2, q_V_ownsL_eq_1, q_V_ownsL_eq_2, q_V_toNew_eq_1, q_V_toNew_eq_4, q_K_toNew_eq_1, q_V_toNewL_eq_1, q_V_toNewL_eq_2, q_C_norm_eq_4, q_C_norm_eq_5, q_List_map_cons, q_List_map_nil, q_List_drop_zero, true_and, if_true, and_self, List.append_nil, List.nodup_nil, Nat.reduceBEq, Nat.zero_add, Nat.le_refl, q_learn_eq_1, q_condK_eq_1, condB_decide, encT_norm, List.length_map, r_ofRow_take, encT_len, lookT_here, lookT_next, lookO_here, r_map_nrm, uf31r1, uf31b2, uf31r3, uf31b4, uf31b5]
  refine ⟨fun h => ?_, fun h => ?_⟩
  · rw [checkT, if_pos (hm.1 h)]; rfl
  · have h0 : ¬ nodes t 60 8 < 0 := fun h' => h (hm.2 h')
    refine call_s (s60 8 t (narrow_of 8 t 60 (by omega) (by simp; omega))) ?_
    simp only [pairV, q_wpLs_eq_1, q_wpLs_eq_2, q_wpL_eq_1, q_exL_eq_1, q_exL_eq_27, q_look_eq_1, q_insT_eq_1, q_awl_eq_10, q_putK_eq_1, q_vExtr_eq_1, q_mapT_eq_1, q_mapT_eq_2, q_mapO_eq_1, q_mapO_eq_2, q_endK_eq_2, q_endL_eq_1, q_endV_eq_1, q_resL_eq_1, q_resL_eq_2, q_resX_eq_1, q_one_eq_2, q_V_nrm_eq_1, q_V_nrm_eq_2, q_V_nrm_eq_4, q_K_nrm_eq_1, q_K_nrm_eq_3, q_V_nrmL_eq_1, q_V_nrmL_eq_2, q_O_nrm_eq_1, q_V_owns_eq_1, q_V_owns_eq_3, q_K_owns_eq_2, q_V_ownsL_eq_1, q_V_ownsL_eq_2, q_V_toNew_eq_1, q_V_toNew_eq_4, q_K_toNew_eq_1, q_V_toNewL_eq_1, q_V_toNewL_eq_2, q_C_norm_eq_4, q_C_norm_eq_5, q_List_getElemQ_cons_zero, q_List_getElemQ_cons_succ, true_and, and_self, List.append_nil, List.nodup_nil, Nat.reduceBEq, encT_norm, lookT_here, lookT_next, r_map_nrm]
    rw [checkT, if_neg h0]
end Go.Abs


set_option maxRecDepth 100000
set_option maxHeartbeats 4000000
namespace Go.Abs
open Go.Proofs
theorem kind_fit {op : Int} {ty : List Int} (h1 : 3 ≤ op) (h2 : op ≤ 13) (hl : (ty.length : Int) = arity op) (ht : ∀ x ∈ ty, x = 0 ∨ x = 1) :
    (match fit (shapeArgs op) ty (-1) with | none => ((0 : Int), (11 : Int)) | some c => if shapeRes op = -1 then (c, 0) else (shapeRes op, 0)) = if kindB op ty = true then (kindK op ty, 0) else (0, 11) := by
  have hop : op = 3 ∨ op = 4 ∨ op = 5 ∨ op = 6 ∨ op = 7 ∨ op = 8 ∨ op = 9 ∨ op = 10 ∨ op = 11 ∨ op = 12 ∨ op = 13 := by omega
  by_cases e3 : op = 3
  · subst e3
    have hl2 : ty.length = 1 := by simp [arity] at hl; omega
    obtain ⟨a, rfl⟩ := list1 hl2
    rcases ht a (by simp) with rfl | rfl <;> rfl
  by_cases e6 : op = 6
  · subst e6
    have hl2 : ty.length = 3 := by simp [arity] at hl; omega
    obtain ⟨a, b, c, rfl⟩ := list3 hl2
    rcases ht a (by simp) with rfl | rfl <;> rcases ht b (by simp) with rfl | rfl <;> rcases ht c (by simp) with rfl | rfl <;> rfl
  have hl2 : ty.length = 2 := by rw [arity, if_neg (by omega), if_neg e3, if_neg e6] at hl; omega
  obtain ⟨a, b, rfl⟩ := list2 hl2
  rcases hop with rfl | rfl | rfl | rfl | rfl | rfl | rfl | rfl | rfl | rfl | rfl
  all_goals first
    | exact absurd rfl e3
    | exact absurd rfl e6
    | (rcases ht a (by simp) with rfl | rfl <;> rcases ht b (by simp) with rfl | rfl <;> rfl)
theorem arity_shape {op : Int} (h : 3 ≤ op) : arity op = (shapeArgs op).length := by
  rw [shape_len h, arity, if_neg (by omega)]
theorem node_typed (t : Term) (ty : List Int) (ht : ∀ x ∈ ty, x = 0 ∨ x = 1) (h1 : 0 ≤ t.op) (h2 : t.op ≤ 13) (hl : (ty.length : Int) = arity t.op) (hn : 3 ≤ t.op) (h0 : t.n = 0) :
    node t ty = if kindB t.op ty = true then (kindK t.op ty, 0) else (0, 11) := by
  have hsh := arity_shape hn
  rw [← kind_fit hn h2 hl ht]
  have a1 : ¬ (t.op < 0 ∨ t.op > 13) := by omega
  have a2 : ¬ (t.op = 0 ∨ t.op = 1 ∨ t.op = 2) := by omega
  have a3 : ¬ (ty.length ≠ (shapeArgs t.op).length ∨ t.n ≠ 0) := by omega
  simp only [node, if_neg a1, if_neg a2, if_neg a3]
  all_goals rfl
end Go.Abs


namespace Go.Abs
def qtype (q : Int) : Int := if q = 6 ∨ q = 7 ∨ q = 10 ∨ q = 12 ∨ q = 13 ∨ q = 14 ∨ q = 15 ∨ q = 16 ∨ q = 20 ∨ q = 21 then 0 else 1
def typeQ (q : Int) : V := if q < 0 ∨ q ≥ 22 then .tup [.int .i64 0, .bool false] else .tup [.int .i64 (qtype q), .bool true]
def chs : List Choice → Int → Bool
  | [], _ => true
  | c :: l, last => if ¬ (last < c.ask ∧ c.ask < 22) ∨ c.by_ < 0 ∨ c.by_ ≥ 5 then false else chs l c.ask
def rls : List Rule → Int → Bool
  | [], _ => true
  | c :: l, last => if ¬ (last < c.ask ∧ c.ask < 22) then false else rls l c.ask
def tys : List Rule → Int
  | [] => 0
  | r :: l => if (checkT r.term).2 ≠ 0 then (checkT r.term).2 else if (checkT r.term).1 ≠ qtype r.ask then 11 else tys l
def checkO (o : Order) : Int := if chs o.choices (-1) = false then 1 else if rls o.rules (-1) = false then 1 else tys o.rules
def ordersO : List Order → Int → Int × Int
  | [], _ => (-1, 0)
  | o :: l, i => if checkO o ≠ 0 then (i, checkO o) else ordersO l (i + 1)
def fewR : List Rule → Bool
  | [] => true
  | r :: l => if few r.term = false then false else fewR l
def fewO (o : Order) : Bool := if o.choices.length > 60 ∨ o.rules.length > 60 then false else fewR o.rules
theorem chs_drop {l : List Choice} {i : Nat} (h : i < l.length) (last : Int) : chs (l.drop i) last = if ¬ (last < l[i].ask ∧ l[i].ask < 22) ∨ l[i].by_ < 0 ∨ l[i].by_ ≥ 5 then false else chs (l.drop (i + 1)) l[i].ask := by
  rw [List.drop_eq_getElem_cons h, chs]
theorem rls_drop {l : List Rule} {i : Nat} (h : i < l.length) (last : Int) : rls (l.drop i) last = if ¬ (last < l[i].ask ∧ l[i].ask < 22) then false else rls (l.drop (i + 1)) l[i].ask := by
  rw [List.drop_eq_getElem_cons h, rls]
theorem tys_drop {l : List Rule} {i : Nat} (h : i < l.length) : tys (l.drop i) = if (checkT l[i].term).2 ≠ 0 then (checkT l[i].term).2 else if (checkT l[i].term).1 ≠ qtype l[i].ask then 11 else tys (l.drop (i + 1)) := by
  rw [List.drop_eq_getElem_cons h, tys]
theorem ordersO_drop {l : List Order} {i : Nat} (h : i < l.length) (n : Int) : ordersO (l.drop i) n = if checkO l[i] ≠ 0 then (n, checkO l[i]) else ordersO (l.drop (i + 1)) (n + 1) := by
  rw [List.drop_eq_getElem_cons h, ordersO]
theorem fewR_drop {l : List Rule} {i : Nat} (h : i < l.length) : fewR (l.drop i) = if few l[i].term = false then false else fewR (l.drop (i + 1)) := by
  rw [List.drop_eq_getElem_cons h, fewR]
def rix : List Rule → Int → Int → Int
  | [], _, _ => -1
  | r :: l, q, i => if r.ask = q then i else rix l q (i + 1)
theorem rix_drop {l : List Rule} {i : Nat} (h : i < l.length) (q n : Int) : rix (l.drop i) q n = if l[i].ask = q then n else rix (l.drop (i + 1)) q (n + 1) := by
  rw [List.drop_eq_getElem_cons h, rix]
def hasR (l : List Rule) (q : Int) : Bool := l.any fun r => decide (r.ask = q)
theorem rix_neg : ∀ (l : List Rule) (q i : Int), 0 ≤ i → (rix l q i < 0 ↔ hasR l q = false) ∧ (0 ≤ rix l q i ↔ hasR l q = true)
  | [], q, i, h => by simp [rix, hasR]
  | r :: l, q, i, h => by
    have := rix_neg l q (i + 1) (by omega)
    simp only [rix, hasR, List.any_cons] at this ⊢
    split
    · rename_i hr; simp [hr]; omega
    · rename_i hr; simpa [hr] using this
def hasI (l : List Int) (v : Int) : Bool := l.any fun x => decide (x = v)
def ixP (p : Int → Bool) : List Int → Int → Int
  | [], _ => -1
  | x :: l, i => if p x = true then i else ixP p l (i + 1)
theorem ixP_drop {p : Int → Bool} {l : List Int} {i : Nat} (h : i < l.length) (n : Int) : ixP p (l.drop i) n = if p l[i] = true then n else ixP p (l.drop (i + 1)) (n + 1) := by
  rw [List.drop_eq_getElem_cons h, ixP]
theorem ixP_any (p : Int → Bool) : ∀ (l : List Int) (i : Int), 0 ≤ i → (0 ≤ ixP p l i ↔ l.any p = true)
  | [], i, h => by simp [ixP]
  | x :: l, i, h => by
    have := ixP_any p l (i + 1) (by omega)
    simp only [ixP, List.any_cons]
    split
    · rename_i hr; simp [hr]; omega
    · rename_i hr; simpa [hr] using this
def gapsO (o : Order) : List Int := (upto 22).filter fun q => !(hasR o.rules q)
end Go.Abs


set_option maxRecDepth 100000
namespace Go.Proofs
open Go.Shelf
def Try.laysSort_ren : Go.Shelf.Ren :=
  {
    f := fun x =>
      match x with
      | 189 => 49
      | 125 => 69
      | 257 => 68
      | 128 => 91
      | 129 => 92
      | 294 => 82
      | 295 => 83
      | 296 => 84
      | 297 => 85
      | 298 => 86
      | 299 => 87
      | 216 => 88
      | 300 => 89
      | 301 => 90
      | 328 => 100
      | 329 => 101
      | 330 => 102
      | 331 => 103
      | 332 => 104
      | 215 => 105
      | 343 => 107
      | n => n,
    t := fun x =>
      match x with
      | 28 => 36
      | 3 => 3
      | 46 => 89
      | 0 => 0
      | 51 => 110
      | 53 => 112
      | 4 => 4
      | 183 => 104
      | 182 => 103
      | 131 => 28
      | 5 => 5
      | 9 => 9
      | 218 => 117
      | 222 => 121
      | 228 => 123
      | 229 => 124
      | n => n,
    g := fun n => n }
theorem Try.laysSort : Lays.n189 Try.prog Try.laysSort_ren :=
  { mixed := Eq.refl true, f125 := Eq.trans Try.func69 (congrArg some (Eq.refl (Body.n125 Try.laysSort_ren))),
    f128 := Eq.trans Try.func91 (congrArg some (Eq.refl (Body.n128 Try.laysSort_ren))),
    f129 := Eq.trans Try.func92 (congrArg some (Eq.refl (Body.n129 Try.laysSort_ren))),
    f189 := Eq.trans Try.func49 (congrArg some (Eq.refl (Body.n189 Try.laysSort_ren))),
    f215 := Eq.trans Try.func105 (congrArg some (Eq.refl (Body.n215 Try.laysSort_ren))),
    f216 := Eq.trans Try.func88 (congrArg some (Eq.refl (Body.n216 Try.laysSort_ren))),
    f257 := Eq.trans Try.func68 (congrArg some (Eq.refl (Body.n257 Try.laysSort_ren))),
    f294 := Eq.trans Try.func82 (congrArg some (Eq.refl (Body.n294 Try.laysSort_ren))),
    f295 := Eq.trans Try.func83 (congrArg some (Eq.refl (Body.n295 Try.laysSort_ren))),
    f296 := Eq.trans Try.func84 (congrArg some (Eq.refl (Body.n296 Try.laysSort_ren))),
    f297 := Eq.trans Try.func85 (congrArg some (Eq.refl (Body.n297 Try.laysSort_ren))),
    f298 := Eq.trans Try.func86 (congrArg some (Eq.refl (Body.n298 Try.laysSort_ren))),
    f299 := Eq.trans Try.func87 (congrArg some (Eq.refl (Body.n299 Try.laysSort_ren))),
    f300 := Eq.trans Try.func89 (congrArg some (Eq.refl (Body.n300 Try.laysSort_ren))),
    f301 := Eq.trans Try.func90 (congrArg some (Eq.refl (Body.n301 Try.laysSort_ren))),
    f328 := Eq.trans Try.func100 (congrArg some (Eq.refl (Body.n328 Try.laysSort_ren))),
    f329 := Eq.trans Try.func101 (congrArg some (Eq.refl (Body.n329 Try.laysSort_ren))),
    f330 := Eq.trans Try.func102 (congrArg some (Eq.refl (Body.n330 Try.laysSort_ren))),
    f331 := Eq.trans Try.func103 (congrArg some (Eq.refl (Body.n331 Try.laysSort_ren))),
    f332 := Eq.trans Try.func104 (congrArg some (Eq.refl (Body.n332 Try.laysSort_ren))),
    f343 := Eq.trans Try.func107 (congrArg some (Eq.refl (Body.n343 Try.laysSort_ren))), t0 := Try.underlying0,
    a0 := Try.isAgg0, z0 := Try.sizeOf0, v0 := Try.zeroValue0, t3 := Try.underlying3, a3 := Try.isAgg3, z3 := Try.sizeOf3,
    v3 := Try.zeroValue3, t4 := Try.underlying4, a4 := Try.isAgg4, z4 := Try.sizeOf4, v4 := Try.zeroValue4,
    t5 := Try.underlying5, a5 := Try.isAgg5, z5 := Try.sizeOf5, v5 := Try.zeroValue5, t9 := Try.underlying9,
    a9 := Try.isAgg9, z9 := Try.sizeOf9, v9 := Try.zeroValue9, t28 := Try.underlying36, a28 := Try.isAgg36,
    z28 := Try.sizeOf36, v28 := Try.zeroValue36, t46 := Try.underlying89, a46 := Try.isAgg89, z46 := Try.sizeOf89,
    v46 := Try.zeroValue89, t51 := Try.underlying110, a51 := Try.isAgg110, z51 := Try.sizeOf110, v51 := Try.zeroValue110,
    t53 := Try.underlying112, a53 := Try.isAgg112, z53 := Try.sizeOf112, v53 := Try.zeroValue112,
    t131 := Try.underlying28, a131 := Try.isAgg28, z131 := Try.sizeOf28, v131 := Try.zeroValue28,
    t182 := Try.underlying103, a182 := Try.isAgg103, z182 := Try.sizeOf103, v182 := Try.zeroValue103,
    t183 := Try.underlying104, a183 := Try.isAgg104, z183 := Try.sizeOf104, v183 := Try.zeroValue104,
    t218 := Try.underlying117, a218 := Try.isAgg117, z218 := Try.sizeOf117, v218 := Try.zeroValue117,
    t222 := Try.underlying121, a222 := Try.isAgg121, z222 := Try.sizeOf121, v222 := Try.zeroValue121,
    t228 := Try.underlying123, a228 := Try.isAgg123, z228 := Try.sizeOf123, v228 := Try.zeroValue123,
    t229 := Try.underlying124, a229 := Try.isAgg124, z229 := Try.sizeOf124, v229 := Try.zeroValue124 }
def Try.laysCompact_ren : Go.Shelf.Ren :=
  {
    f := fun x =>
      match x with
      | 20 => 50
      | n => n,
    t := fun x =>
      match x with
      | 22 => 36
      | 3 => 3
      | 4 => 4
      | 0 => 0
      | n => n,
    g := fun n => n }
theorem Try.laysCompact : Lays2.n20 Try.prog Try.laysCompact_ren :=
  { mixed := Eq.refl true, f20 := Eq.trans Try.func50 (congrArg some (Eq.refl (Body2.n20 Try.laysCompact_ren))),
    t0 := Try.underlying0, a0 := Try.isAgg0, z0 := Try.sizeOf0, v0 := Try.zeroValue0, t3 := Try.underlying3,
    a3 := Try.isAgg3, z3 := Try.sizeOf3, v3 := Try.zeroValue3, t4 := Try.underlying4, a4 := Try.isAgg4, z4 := Try.sizeOf4,
    v4 := Try.zeroValue4, t22 := Try.underlying36, a22 := Try.isAgg36, z22 := Try.sizeOf36, v22 := Try.zeroValue36,
    i3 := Eq.refl (some (some (Go.Value.int Go.IntKind.i64 0), 1, 8)) }
end Go.Proofs
set_option maxRecDepth 100000
namespace Go.Abs
open Go.Proofs
theorem callable_at {P : Program} {f : FuncId} (h : (match P.funcs[f]? with | some fn => fn.body.isSome && !(fn.name == "runtime.NumGoroutine") | none => false) = true) : Callable P f := by
  cases hf : P.funcs[f]? with
  | none => rw [hf] at h; cases h
  | some fn =>
    rw [hf] at h
    simp only [Bool.and_eq_true, Bool.not_eq_true'] at h
    exact ⟨fn, hf, h.1, h.2⟩
theorem s49 {e : TypeId} {τ : Nat} {l : List Int} (hl : l.length < 4611686018427387904) : SpecS Try.prog 49 [.k (.own τ)] (oneI e τ l) [τ] (fun r o' => r = .tup [] ∧ o' = oneI e τ (sortI l)) :=
  sort_spec Try.laysSort (callable_at (by kernel_rfl)) hl
theorem s50 {e : TypeId} {τ : Nat} {l : List Int} : SpecS Try.prog 50 [.k (.own τ)] (oneI e τ l) [] (fun r o' => r = .k (.own τ) ∧ o' = oneI e τ (Lib.compact l)) :=
  compact_spec Try.laysCompact (callable_at (by kernel_rfl))
end Go.Abs


set_option maxRecDepth 100000
set_option maxHeartbeats 4000000
namespace Go.Abs
open Go.Proofs
mutual
def szT : Term → Nat
  | .mk _ _ a => 1 + szL a
def szL : List Term → Nat
  | [] => 0
  | t :: l => szT t + szL l
end
theorem szT_eq (t : Term) : szT t = 1 + szL t.args := by cases t; simp only [szT, Term.args]
theorem szL_drop {l : List Term} {i : Nat} (h : i < l.length) : szL (l.drop i) = szT l[i] + szL (l.drop (i + 1)) := by
  rw [List.drop_eq_getElem_cons h, szL]
theorem szL_le : ∀ (l : List Term), l.length ≤ szL l
  | [] => by simp [szL]
  | t :: l => by have := szL_le l; rw [szL, szT_eq]; simp; omega
mutual
theorem coll_len : ∀ (t : Term) (acc : List Int), (coll t acc).length ≤ acc.length + szT t
  | .mk o n a, acc => by
    simp only [coll, szT]
    have := collL_len a (if o = 2 then acc ++ [n] else acc)
    split at this <;> simp_all <;> omega
theorem collL_len : ∀ (l : List Term) (acc : List Int), (collL l acc).length ≤ acc.length + szL l
  | [], acc => by simp [collL, szL]
  | t :: l, acc => by
    simp only [collL, szL]
    have h1 := coll_len t acc
    have h2 := collL_len l (coll t acc)
    omega
end
def walkO (acc : List Int) : OS := [(1005, .var 36 [.own 1000]), (1006, .var 80 [.fnk 62 [.tok 1005, .tok 1006]]), (1000, .arr 3 1 none (ints acc))]
def walkT : List Nat := [1005, 1006, 1000]
theorem s62 : ∀ (t : Term) (acc : List Int), acc.length + szT t ≤ 1000000 → SpecS Try.prog 62 [.agg (encT t), .k (.ptr 1005 0), .k (.ptr 1006 0)] (tabL walkT (walkO acc)) [1005, 1006] (fun r o' => r = .tup [] ∧ o' = tabL walkT (walkO (coll t acc))) := by
  refine Term.ind fun o n a ih acc => ?_
  generalize ht : Term.mk o n a = t
  have ha : a = t.args := by rw [← ht]; rfl
  rw [ha] at ih
  clear ht ha o n a
  intro hsz
  have hsz' := hsz
  rw [szT_eq] at hsz'
  have hal := szL_le t.args
  refine SpecS.of_awl (anchors := [(1, 1005), (2, 1006)]) hf62 okf62 (by simp) (by rfl) (by simp [walkO, walkT]) ?_
  generalize hS : (fun (r : V) (o' : Nat → Option O) => r = .tup [] ∧ o' = tabL walkT (walkO (coll t acc))) = S
  rw [coll_eq] at hS
  have loop : ∀ (acc' : List Int) (nl : Option Bool), acc'.length + szL t.args ≤ 1000000 → collL t.args acc' = collL t.args (if t.op = 2 then acc ++ [t.n] else acc) →
      ∀ ts os, keepT ts [1, 2, 15, 16, 17] = [(1, .k (.ptr 1005 0)), (2, .k (.ptr 1006 0)), (15, lst 3 (t.args.map encT)), (16, .int .i64 t.args.length), (17, .int .i64 0)] →
      keepO os [1000, 1005, 1006] = [(1000, .arr 3 1 nl (ints acc')), (1005, .var 36 [.own 1000]), (1006, .var 80 [.fnk 62 [.tok 1005, .tok 1006]])] →
      awl Try.prog f62l11 (AE.inBlockL 0 (endSK [] [.agg (encT t), .k (.ptr 1005 0), .k (.ptr 1006 0)] (tabL walkT (walkO acc)) walkT [(1, 1005), (2, 1006)] S)) ts os := by
    intro acc' nl hacc hcoll ts os hts hos
    rw [uf62l11]
    refine awl_loop (fun x : Nat × List Int × Option Bool => [(1, .k (.ptr 1005 0)), (2, .k (.ptr 1006 0)), (15, lst 3 (t.args.map encT)), (16, .int .i64 t.args.length), (17, .int .i64 x.1)])
      (fun x => [(1000, .arr 3 1 x.2.2 (ints x.2.1)), (1005, .var 36 [.own 1000]), (1006, .var 80 [.fnk 62 [.tok 1005, .tok 1006]])])
      (fun x => x.1 ≤ t.args.length ∧ x.2.1.length + szL (t.args.drop x.1) ≤ 1000000 ∧ collL (t.args.drop x.1) x.2.1 = collL t.args acc') (fun x => t.args.length - x.1) (0, acc', nl) hts hos ⟨Nat.zero_le _, by simpa using hacc, rfl⟩ ?_
    rintro ⟨i, ac, nl⟩ ⟨hi, hb, hj⟩
    simp only [] at hi hb hj
    by_cases hlt : i < t.args.length
    · have c1 : (i : Int) < t.args.length := by omega
      have c4 : IntKind.i64.wrap ((i : Int) + 1) = (i : Int) + 1 := wrap_in (by omega) (by omega)
      rw [szL_drop hlt] at hb
      rw [collL_drop hlt] at hj
      have hcl := coll_len t.args[i] ac
      simp only [c1, map_at hlt, encT_len, q_wpLs_eq_1, q_wpLs_eq_2, q_wpL_eq_1, q_exL_eq_4, q_exL_eq_8, q_exL_eq_9, q_exL_eq_11, q_exL_eq_23, q_exL_eq_29, q_look_eq_1, q_insT_eq_1, q_insO_eq_1, q_awl_eq_1, q_awl_eq_2, q_awl_eq_5, q_awl_eq_6, q_awl_eq_7, q_AE_thenL_eq_1, q_AE_inBlockL_eq_1, q_putK_eq_1, q_vBin_eq_1, q_resV_eq_1, q_binV_eq_1, q_binInt_eq_3, q_cutInt_eq_8, q_partV_eq_1, q_loadO_eq_1, q_isV_eq_1, q_vLoad_eq_1, q_vLoad_eq_2, q_ofRow_eq_1, q_pureRow_eq_3, q_V_cells_eq_2, q_splice_eq_1, q_stVarK_eq_1, q_storeK_eq_1, q_freeB_eq_1, q_freeT_eq_1, q_freeT_eq_2, q_freeO_eq_1, q_freeO_eq_2, q_V_noRef_eq_1, q_V_noRef_eq_2, q_K_noRef_eq_1, q_K_noRef_eq_2, q_K_noRef_eq_3, q_K_noRef_eq_5, q_K_noRef_eq_6, q_O_noRef_eq_1, q_O_noRef_eq_2, q_Cap_noRef_eq_1, q_List_map_cons, q_List_map_nil, q_List_take_succ_cons, q_List_take_zero, q_List_drop_succ_cons, q_List_drop_zero, q_List_nil_append, q_List_length_cons, q_List_length_nil, q_List_all_cons, q_List_all_nil, true_and, if_true, if_false, Bool.false_eq_true, and_self, bne_iff_ne, ne_eq, Bool.and_eq_true, Bool.and_true, Bool.true_and, Bool.or_true, Bool.false_or, List.append_nil, Nat.reduceAdd, Nat.reduceEqDiff, Nat.reduceBEq, Nat.zero_add, Int.toNat_natCast, Nat.le_refl, Int.natCast_nonneg, q_learn_eq_1, not_false_eq_true, q_condK_eq_1, q_condB_eq_1, decide_true, r_vIaddr_lst, List.length_map, r_ofRow_take, encT_len, lookT_here, lookT_next, lookO_here, lookO_next, uf62r1, uf62r2, uf62r3, uf62b4, uf62b5, uf62b6, uf62b7, uf62b8, uf62r9, uf62b10]
      refine .inr ⟨_, _, rfl, ?_⟩
      refine call_tab (dead := [1000]) (ih t.args[i] (List.getElem_mem hlt) ac (by omega)) ?_ (by simp [V.within, Abs.K.within, capV, walkT]) (by simp [Cap.live, lookO, isVarO]) (by simp [walkT]) (by simp [capV, V.nrm, Abs.K.nrm, encT_norm]) ?_ ?_ ?_ ?_ (by rfl)
      · simp only [c4, walkO, q_wpLs_eq_1, q_wpLs_eq_2, q_wpL_eq_1, q_exL_eq_1, q_exL_eq_11, q_look_eq_1, q_look_eq_2, q_insT_eq_1, q_awl_eq_2, q_AE_thenL_eq_1, q_putK_eq_1, q_vBin_eq_1, q_resV_eq_1, q_binV_eq_1, q_binInt_eq_3, q_cutInt_eq_1, q_mapT_eq_1, q_mapT_eq_2, q_mapO_eq_1, q_mapO_eq_2, q_Cap_noRef_eq_1, q_V_scrub_eq_1, q_V_scrub_eq_3, q_K_scrub_eq_1, q_K_scrub_eq_2, q_K_scrub_eq_4, q_K_scrub_eq_5, q_O_scrub_eq_1, q_O_scrub_eq_2, q_putDK_eq_2, q_List_map_cons, q_List_map_nil, q_List_nil_append, q_List_cons_append, q_List_all_cons, q_List_all_nil, true_and, if_true, if_false, and_self, bne_iff_ne, ne_eq, Bool.and_eq_true, Bool.and_true, Nat.reduceEqDiff, Nat.reduceBEq, not_false_eq_true, lookT_here, lookT_next, r_map_scrub, z_scrubs_nil, z_scrubs_cons, z_oscrubs_nil, z_oscrubs_cons]
        exact Next.intro (i + 1, coll t.args[i] ac, none) rfl rfl ⟨by simp only []; omega, by simp only []; omega, hj⟩ (by simp only []; omega)
      · simp [walkT, lookO, O.within, Abs.K.within, Cap.within]
      · simp [walkT, walkO, lookO, O.nrm, Abs.K.nrm]
      · simp [walkT, walkO, lookO]
      · simp [walkT, walkO, O.within, Abs.K.within, Cap.within]
    · have c1 : ¬ (i : Int) < t.args.length := by omega
      rw [List.drop_eq_nil_of_le (by omega), collL] at hj
      simp only [c1, q_wpLs_eq_1, q_wpLs_eq_2, q_wpL_eq_1, q_exL_eq_11, q_look_eq_1, q_insT_eq_1, q_awl_eq_2, q_awl_eq_5, q_awl_eq_6, q_awl_eq_9, q_AE_thenL_eq_1, q_AE_thenL_eq_2, q_AE_inBlockL_eq_2, q_putK_eq_1, q_vBin_eq_1, q_resV_eq_1, q_binV_eq_1, q_binInt_eq_3, q_cutInt_eq_8, q_mapT_eq_1, q_mapT_eq_2, q_mapO_eq_1, q_mapO_eq_2, q_resL_eq_1, q_one_eq_2, q_V_nrm_eq_1, q_K_nrm_eq_1, q_K_nrm_eq_3, q_O_nrm_eq_1, q_O_nrm_eq_2, q_C_norm_eq_4, q_C_norm_eq_5, q_List_map_cons, q_List_map_nil, q_List_getElemQ_cons_zero, q_List_getElemQ_cons_succ, true_and, if_true, forall_eq_or_imp, forall_eq, or_false, List.mem_cons, Nat.reduceBEq, q_learn_eq_1, q_condK_eq_1, q_condB_eq_2, decide_false, norm_lst, normRows_T, normRows_ints, lookT_here, lookT_next, lookO_here, lookO_next, List.not_mem_nil, z_endSK_normal, z_endSL, uf62b7, uf62b8, uf62r9, uf62b10]
      rw [← hcoll, ← hj] at hS
      have htab := tabL_eq (T := walkT) (os := [(1000, .arr 3 1 none (ints ac)), (1005, .var 36 [.own 1000]), (1006, .var 80 [.fnk 62 [.tok 1005, .tok 1006]])]) (L := walkO ac) (by simp [walkT, walkO, lookO])
      rw [htab, ← hS]
      refine ⟨⟨rfl, rfl⟩, rfl, ?_, ?_, ?_⟩
      · simp [walkT, lookO, O.within, Abs.K.within, Cap.within]
      · simp [walkT, walkO, tabL, tabIn, lookO, likeVar]
      · simp [walkT, walkO, tabL, tabIn, lookO, likeVar]
  by_cases h2 : t.op = 2
  · rw [if_pos h2] at hS loop
    have hlen : (acc ++ [t.n]).length = acc.length + 1 := by simp
    have hop : encT t = [.int .i64 2, .int .i64 t.n, lstC 3 (t.args.map encT)] := by rw [encT_eq, h2]
    simp only [walkO, hop, q_wpLs_eq_1, q_wpLs_eq_2, q_wpL_eq_1, q_exL_eq_1, q_exL_eq_5, q_exL_eq_7, q_exL_eq_8, q_exL_eq_9, q_exL_eq_11, q_exL_eq_21, q_exL_eq_30, q_exL_eq_33, q_look_eq_1, q_look_eq_2, q_insT_eq_1, q_insO_eq_1, q_awl_eq_2, q_awl_eq_5, q_awl_eq_6, q_awl_eq_7, q_AE_thenL_eq_1, q_initT_eq_1, q_initT_eq_2, q_putK_eq_1, q_vBin_eq_1, q_resV_eq_1, q_binV_eq_1, q_binInt_eq_3, q_cutInt_eq_6, q_vFaddr_eq_1, q_loadO_eq_1, q_isV_eq_1, q_vLoad_eq_1, q_ofRow_eq_1, q_pureRow_eq_1, q_pureRow_eq_2, q_pureRow_eq_3, q_V_cells_eq_1, q_splice_eq_1, q_isVarO_eq_1, q_nlApp_eq_2, q_boxK_eq_1, q_vRow_eq_1, q_vLits_eq_1, q_vLits_eq_2, q_bsK_eq_1, q_stVarK_eq_1, q_storeK_eq_1, q_srcO_eq_1, q_srcV_eq_2, q_appK_eq_1, q_appendK_eq_1, q_mapT_eq_1, q_mapT_eq_2, q_mapO_eq_1, q_mapO_eq_2, q_delO_eq_1, q_delO_eq_2, q_freeB_eq_1, q_freeT_eq_1, q_freeT_eq_2, q_freeO_eq_1, q_freeO_eq_2, q_V_noRef_eq_1, q_V_noRef_eq_2, q_K_noRef_eq_1, q_K_noRef_eq_2, q_K_noRef_eq_3, q_K_noRef_eq_6, q_O_noRef_eq_1, q_O_noRef_eq_2, q_Cap_noRef_eq_1, q_V_scrub_eq_1, q_V_scrub_eq_3, q_K_scrub_eq_1, q_K_scrub_eq_2, q_K_scrub_eq_4, q_K_scrub_eq_5, q_O_scrub_eq_1, q_O_scrub_eq_2, q_Option_map_some, q_List_map_cons, q_List_map_nil, q_List_take_succ_cons, q_List_take_zero, q_List_drop_succ_cons, q_List_drop_zero, q_List_nil_append, q_List_foldl_cons, q_List_foldl_nil, q_List_replicate_succ, q_List_replicate_zero, q_List_set_cons_zero, q_List_length_cons, q_List_length_nil, q_List_all_cons, q_List_all_nil, true_and, if_true, if_false, Bool.false_eq_true, forall_eq, or_false, and_self, bne_iff_ne, ne_eq, Bool.and_eq_true, Bool.and_true, Bool.true_and, Bool.or_true, Bool.false_or, BEq.rfl, List.append_nil, List.mem_cons, Nat.reduceAdd, Nat.reduceEqDiff, Nat.reduceLeDiff, Nat.reduceLT, Nat.reduceBEq, Nat.zero_add, Nat.add_zero, Nat.le_refl, q_learn_eq_1, not_false_eq_true, q_condK_eq_1, q_condB_eq_1, r_vLen_lst, ints_len, List.length_map, lookT_here, lookT_next, lookO_here, lookO_next, List.not_mem_nil, uf62, uf62b12, uf62r13, uf62b14, uf62r15, uf62b16, uf62r17, uf62b18, uf62b19, uf62r20, uf62b21]
    refine ⟨by omega, by omega, ?_⟩
    have := loop (acc ++ [t.n]) (some false) (by omega) rfl
    rw [hop] at this
    exact this _ _ rfl (by rw [ints_snoc]; rfl)
  · rw [if_neg h2] at hS loop
    have := loop acc none (by omega) rfl
    rw [encT_eq] at this
    simp only [walkO, encT_eq t, h2, q_wpLs_eq_1, q_wpLs_eq_2, q_wpL_eq_1, q_exL_eq_1, q_exL_eq_5, q_exL_eq_7, q_exL_eq_8, q_exL_eq_9, q_exL_eq_11, q_exL_eq_21, q_exL_eq_30, q_exL_eq_33, q_look_eq_1, q_look_eq_2, q_insT_eq_1, q_insO_eq_1, q_awl_eq_1, q_awl_eq_2, q_awl_eq_5, q_awl_eq_6, q_awl_eq_7, q_AE_thenL_eq_1, q_initT_eq_1, q_initT_eq_2, q_putK_eq_1, q_vBin_eq_1, q_resV_eq_1, q_binV_eq_1, q_binInt_eq_3, q_cutInt_eq_6, q_vFaddr_eq_1, q_loadO_eq_1, q_isV_eq_1, q_vLoad_eq_1, q_ofRow_eq_1, q_pureRow_eq_1, q_pureRow_eq_2, q_pureRow_eq_3, q_V_cells_eq_1, q_splice_eq_1, q_isVarO_eq_1, q_nlApp_eq_2, q_boxK_eq_1, q_vRow_eq_1, q_vLits_eq_1, q_vLits_eq_2, q_bsK_eq_1, q_stVarK_eq_1, q_storeK_eq_1, q_srcO_eq_1, q_srcV_eq_2, q_appK_eq_1, q_appendK_eq_1, q_mapT_eq_1, q_mapT_eq_2, q_mapO_eq_1, q_mapO_eq_2, q_delO_eq_1, q_delO_eq_2, q_freeB_eq_1, q_freeT_eq_1, q_freeT_eq_2, q_freeO_eq_1, q_freeO_eq_2, q_V_noRef_eq_1, q_V_noRef_eq_2, q_K_noRef_eq_1, q_K_noRef_eq_2, q_K_noRef_eq_3, q_K_noRef_eq_6, q_O_noRef_eq_1, q_O_noRef_eq_2, q_Cap_noRef_eq_1, q_V_scrub_eq_1, q_V_scrub_eq_3, q_K_scrub_eq_1, q_K_scrub_eq_2, q_K_scrub_eq_4, q_K_scrub_eq_5, q_O_scrub_eq_1, q_O_scrub_eq_2, q_Option_map_some, q_List_map_cons, q_List_map_nil, q_List_take_succ_cons, q_List_take_zero, q_List_drop_succ_cons, q_List_drop_zero, q_List_nil_append, q_List_foldl_cons, q_List_foldl_nil, q_List_replicate_succ, q_List_replicate_zero, q_List_set_cons_zero, q_List_length_cons, q_List_length_nil, q_List_all_cons, q_List_all_nil, true_and, if_true, if_false, Bool.false_eq_true, false_implies, forall_const, forall_eq, or_false, and_self, bne_iff_ne, ne_eq, Bool.and_eq_true, Bool.and_true, Bool.true_and, Bool.or_true, Bool.false_or, List.append_nil, List.mem_cons, Nat.reduceAdd, Nat.reduceEqDiff, Nat.reduceLeDiff, Nat.reduceLT, Nat.reduceBEq, Nat.zero_add, Nat.add_zero, Nat.le_refl, q_learn_eq_1, not_false_eq_true, q_condK_eq_1, condB_beq, r_vLen_lst, ints_len, List.length_map, lookT_here, lookT_next, lookO_here, lookO_next, List.not_mem_nil, uf62, uf62b12, uf62r13, uf62b14, uf62r15, uf62b16, uf62r17, uf62b18, uf62b19, uf62r20, uf62b21]
    exact this _ _ rfl rfl
theorem szT_nodes : ∀ (f : Nat), (∀ (t : Term) (k : Int), 0 ≤ nodes t k f → (szT t : Int) ≤ k - nodes t k f) ∧ (∀ (l : List Term) (k : Int), 0 ≤ nodesL l k f → (szL l : Int) ≤ k - nodesL l k f) := by
  intro f
  induction f with
  | zero =>
    have h1 : ∀ (t : Term) (k : Int), 0 ≤ nodes t k ((0 : Nat) : Int) → (szT t : Int) ≤ k - nodes t k ((0 : Nat) : Int) := by
      intro t k h
      rw [nodes_eq, if_pos (by omega)] at h
      omega
    refine ⟨h1, fun l => ?_⟩
    induction l with
    | nil => intro k h; simp [nodesL, szL]
    | cons a l ih =>
      intro k h
      simp only [nodesL] at h ⊢
      by_cases hk : k < 0
      · rw [if_pos hk] at h; omega
      · rw [if_neg hk] at h ⊢
        have := ih _ h
        by_cases hn : nodes a k ((0 : Nat) : Int) < 0
        · rw [nodesL_neg _ _ _ hn] at h; omega
        · have := h1 a k (by omega)
          rw [szL]; omega
  | succ f ih =>
    have h1 : ∀ (t : Term) (k : Int), 0 ≤ nodes t k ((f + 1 : Nat) : Int) → (szT t : Int) ≤ k - nodes t k ((f + 1 : Nat) : Int) := by
      intro t k h
      rw [nodes_eq, if_neg (by omega)] at h ⊢
      have e : ((f + 1 : Nat) : Int) - 1 = (f : Nat) := by omega
      rw [e] at h ⊢
      have := ih.2 t.args (k - 1) h
      rw [szT_eq]; omega
    refine ⟨h1, fun l => ?_⟩
    induction l with
    | nil => intro k h; simp [nodesL, szL]
    | cons a l ih =>
      intro k h
      simp only [nodesL] at h ⊢
      by_cases hk : k < 0
      · rw [if_pos hk] at h; omega
      · rw [if_neg hk] at h ⊢
        have := ih _ h
        by_cases hn : nodes a k ((f + 1 : Nat) : Int) < 0
        · rw [nodesL_neg _ _ _ hn] at h; omega
        · have := h1 a k (by omega)
          rw [szL]; omega
theorem s35 (t : Term) : Spec Try.prog 35 [.agg (encT t)] (fun r => r = .k (.newl 3 1 none (ints (if (checkT t).2 ≠ 0 then [] else Lib.compact (sortI (coll t [])))))) := by
  refine Spec.of_awlS hf35 okf35 (by simp) fun S hS => ?_
  simp only [q_wpLs_eq_1, q_wpLs_eq_2, q_wpL_eq_1, q_exL_eq_2, q_exL_eq_5, q_exL_eq_8, q_exL_eq_28, q_look_eq_1, q_insT_eq_1, q_insO_eq_1, q_awl_eq_2, q_awl_eq_5, q_AE_thenL_eq_1, q_initT_eq_1, q_initT_eq_2, q_putK_eq_1, q_loadO_eq_1, q_isV_eq_1, q_vLoad_eq_1, q_boxK_eq_1, q_freeB_eq_1, q_freeT_eq_1, q_freeT_eq_2, q_freeO_eq_1, q_freeO_eq_2, q_V_noRef_eq_1, q_V_noRef_eq_2, q_K_noRef_eq_3, q_O_noRef_eq_1, q_List_map_cons, q_List_map_nil, q_List_drop_zero, true_and, bne_iff_ne, ne_eq, Bool.and_true, Bool.or_true, Bool.false_or, Nat.reduceEqDiff, Nat.reduceBEq, Nat.zero_add, Nat.le_refl, not_false_eq_true, List.length_map, r_ofRow_take, encT_len, lookT_here, lookT_next, lookO_here, lookO_next, r_all_noRef, uf35, uf35r18, uf35b19, uf35b20, uf35r21, uf35b22]
  refine call_s (s31 t) ?_
  simp only [pairV, q_wpLs_eq_1, q_wpLs_eq_2, q_wpL_eq_1, q_exL_eq_1, q_exL_eq_2, q_exL_eq_4, q_exL_eq_8, q_exL_eq_9, q_exL_eq_11, q_exL_eq_17, q_exL_eq_27, q_exL_eq_29, q_look_eq_1, q_look_eq_2, q_insT_eq_1, q_insO_eq_1, q_awl_eq_1, q_awl_eq_2, q_awl_eq_5, q_awl_eq_6, q_awl_eq_10, q_AE_thenL_eq_1, q_AE_thenL_eq_3, q_putK_eq_1, q_vBin_eq_1, q_resV_eq_1, q_binV_eq_1, q_binInt_eq_3, q_cutInt_eq_7, q_vExtr_eq_1, q_loadO_eq_1, q_isV_eq_1, q_vLoad_eq_1, q_ofRow_eq_1, q_pureRow_eq_3, q_V_cells_eq_1, q_splice_eq_1, q_isVarO_eq_1, q_isArrO_eq_1, q_stVarK_eq_1, q_storeK_eq_1, q_mapT_eq_1, q_mapT_eq_2, q_mapO_eq_1, q_mapO_eq_2, q_freeB_eq_1, q_freeT_eq_1, q_freeT_eq_2, q_freeO_eq_1, q_freeO_eq_2, q_V_noRef_eq_1, q_V_noRef_eq_2, q_V_noRef_eq_4, q_K_noRef_eq_1, q_K_noRef_eq_2, q_K_noRef_eq_3, q_O_noRef_eq_1, q_O_noRef_eq_2, q_V_noRefL_eq_1, q_V_noRefL_eq_2, q_endK_eq_2, q_endL_eq_1, q_endV_eq_1, q_resL_eq_1, q_resL_eq_2, q_resX_eq_1, q_one_eq_1, q_V_nrm_eq_1, q_V_nrm_eq_2, q_V_nrm_eq_4, q_K_nrm_eq_1, q_K_nrm_eq_3, q_V_nrmL_eq_1, q_V_nrmL_eq_2, q_O_nrm_eq_1, q_O_nrm_eq_2, q_V_owns_eq_1, q_K_owns_eq_1, q_V_toNew_eq_1, q_K_toNew_eq_2, q_C_norm_eq_4, q_C_norm_eq_5, q_C_normRows_eq_1, q_List_map_cons, q_List_map_nil, q_List_take_succ_cons, q_List_take_zero, q_List_drop_succ_cons, q_List_drop_zero, q_List_nil_append, q_List_length_cons, q_List_length_nil, q_List_getElemQ_cons_zero, q_List_getElemQ_cons_succ, q_List_all_cons, q_List_all_nil, true_and, if_true, if_false, Bool.false_eq_true, and_self, bne_iff_ne, ne_eq, Bool.and_eq_true, Bool.and_true, Bool.true_and, Bool.or_true, Bool.true_or, Bool.false_or, BEq.rfl, List.append_nil, List.nodup_nil, List.nodup_cons, Nat.reduceEqDiff, Nat.reduceBEq, Nat.succ_ne_self, Nat.zero_add, Nat.le_refl, q_learn_eq_1, not_false_eq_true, q_condK_eq_1, condB_bne, encT_norm, List.length_map, r_ofRow_take, encT_len, lookT_here, lookT_next, lookO_here, lookO_next, List.not_mem_nil, r_all_noRef, z_capP, z_caps_nil, z_caps_ptr, z_fnV, z_fnP2, z_pureCaps_tok, r_map_nrm, q_awl_eq_12, z_noAL, ownK_eq, q_awl_eq_13, z_swO_nil, z_swO_cons, z_sw, z_swC_tok, z_swK_c, z_swK_own, z_swK_ptr, z_swK_fnk, z_swV_k, z_swV_agg, z_swV_any, z_swV_tup, z_swO_var, z_swO_arr, z_map_sw, uf35r5, uf35b6, uf35r7, uf35b8, uf35r9, uf35b10, uf35r11, uf35b12, uf35r13, uf35b14, uf35b15, uf35r16, uf35b17]
  refine ⟨fun h => ?_, fun h => ?_⟩
  · rw [if_pos h] at hS
    exact hS
  · rw [if_neg (by simp [h])] at hS
    have hck : (checkT t).2 = 0 := h
    have hsz : szT t ≤ 60 := by
      have hn : ¬ nodes t 60 8 < 0 := by
        intro hn
        rw [checkT, if_pos hn] at hck
        simp at hck
      have := (szT_nodes 8).1 t 60 (by simp; omega)
      have e8 : ((8 : Nat) : Int) = 8 := rfl
      rw [e8] at this
      omega
    have hcl := coll_len t []
    simp only [List.length_nil, Nat.zero_add] at hcl
    refine .inr ⟨_, _, rfl, ?_⟩
    refine call_tab (dead := [1000]) (s62 t [] (by simp; omega)) ?_ (by simp [V.within, Abs.K.within, capV, walkT]) (by simp [Cap.live, lookO, isVarO]) (by simp [walkT]) (by simp [capV, V.nrm, Abs.K.nrm, encT_norm]) ?_ ?_ ?_ ?_ (by rfl)
    · simp only [walkO, q_wpLs_eq_1, q_wpLs_eq_2, q_wpL_eq_1, q_exL_eq_8, q_exL_eq_28, q_look_eq_1, q_insT_eq_1, q_awl_eq_2, q_awl_eq_5, q_AE_thenL_eq_1, q_putK_eq_1, q_loadO_eq_1, q_isV_eq_1, q_vLoad_eq_1, q_ofRow_eq_1, q_pureRow_eq_3, q_mapT_eq_1, q_mapT_eq_2, q_mapO_eq_1, q_mapO_eq_2, q_Cap_noRef_eq_1, q_V_scrub_eq_1, q_V_scrub_eq_3, q_V_scrub_eq_6, q_K_scrub_eq_1, q_K_scrub_eq_2, q_K_scrub_eq_4, q_K_scrub_eq_5, q_O_scrub_eq_1, q_O_scrub_eq_2, q_putDK_eq_2, q_List_map_cons, q_List_map_nil, q_List_take_succ_cons, q_List_take_zero, q_List_drop_zero, q_List_nil_append, q_List_cons_append, q_List_length_cons, q_List_length_nil, q_List_all_cons, q_List_all_nil, true_and, if_true, if_false, Bool.false_eq_true, and_self, bne_iff_ne, ne_eq, Bool.and_eq_true, Bool.and_true, Nat.reduceEqDiff, Nat.reduceBEq, Nat.zero_add, Nat.le_refl, not_false_eq_true, lookT_here, lookT_next, lookO_here, r_map_scrub, z_scrubs_nil, z_scrubs_cons, z_oscrubs_nil, z_oscrubs_cons, uf35r3, uf35b4]
      refine call_sort (coll t []) (s49 (by omega)) rfl ?_
      simp only [q_wpLs_eq_1, q_wpLs_eq_2, q_wpL_eq_1, q_exL_eq_8, q_exL_eq_28, q_look_eq_1, q_insT_eq_1, q_insO_eq_1, q_awl_eq_2, q_awl_eq_5, q_AE_thenL_eq_1, q_putK_eq_1, q_loadO_eq_1, q_isV_eq_1, q_vLoad_eq_1, q_ofRow_eq_1, q_pureRow_eq_3, q_List_map_cons, q_List_map_nil, q_List_take_succ_cons, q_List_take_zero, q_List_drop_zero, q_List_length_cons, q_List_length_nil, true_and, if_false, Bool.false_eq_true, Nat.reduceBEq, Nat.zero_add, Nat.le_refl, lookT_here, lookT_next, lookO_here, lookO_next, uf35r1, uf35b2]
      refine call_compact (sortI (coll t [])) s50 rfl ?_
      simp only [q_wpLs_eq_1, q_wpLs_eq_2, q_wpL_eq_1, q_exL_eq_1, q_look_eq_1, q_insT_eq_1, q_insO_eq_1, q_awl_eq_10, q_isArrO_eq_1, q_mapT_eq_1, q_mapT_eq_2, q_mapO_eq_1, q_mapO_eq_2, q_Cap_noRef_eq_1, q_V_scrub_eq_1, q_V_scrub_eq_3, q_V_scrub_eq_5, q_V_scrub_eq_6, q_K_scrub_eq_1, q_K_scrub_eq_2, q_K_scrub_eq_4, q_K_scrub_eq_5, q_O_scrub_eq_1, q_O_scrub_eq_2, q_endK_eq_2, q_endL_eq_1, q_endV_eq_1, q_resL_eq_1, q_resL_eq_2, q_resX_eq_1, q_one_eq_1, q_V_nrm_eq_1, q_V_nrm_eq_2, q_V_nrm_eq_6, q_K_nrm_eq_1, q_K_nrm_eq_3, q_O_nrm_eq_1, q_O_nrm_eq_2, q_V_owns_eq_1, q_K_owns_eq_1, q_V_toNew_eq_1, q_K_toNew_eq_2, q_C_norm_eq_1, q_C_norm_eq_4, q_C_norm_eq_5, q_C_normRows_eq_1, q_List_map_cons, q_List_map_nil, q_List_all_cons, q_List_all_nil, q_List_isEmpty_nil, true_and, if_true, if_false, and_self, bne_iff_ne, ne_eq, Bool.and_eq_true, Bool.and_true, List.nodup_nil, List.nodup_cons, Nat.reduceEqDiff, not_false_eq_true, normRows_ints, encT_norm, lookT_here, lookO_here, List.not_mem_nil, r_map_scrub, r_map_nrm, q_C_norm_eq_7]
      rw [intRows_norm]
      exact hS
    · simp [walkT, lookO, O.within, Abs.K.within, Cap.within]
    · simp [walkT, walkO, lookO, O.nrm, Abs.K.nrm, ints]
    · simp [walkT, walkO, lookO]
    · simp [walkT, walkO, O.within, Abs.K.within, Cap.within]
end Go.Abs


namespace Go.Abs
inductive WT : Term → Int → Prop where
  | int (n : Int) : inN n → WT (.mk 0 n []) 0
  | bool (n : Int) : n = 0 ∨ n = 1 → WT (.mk 1 n []) 1
  | var (n : Int) : 0 ≤ n → n < 20 → WT (.mk 2 n []) (if n < 7 then 0 else 1)
  | not (a : Term) : WT a 1 → WT (.mk 3 0 [a]) 1
  | andor (o : Int) (a b : Term) : o = 4 ∨ o = 5 → WT a 1 → WT b 1 → WT (.mk o 0 [a, b]) 1
  | ite (a b c : Term) (k : Int) : WT a 1 → WT b k → WT c k → WT (.mk 6 0 [a, b, c]) k
  | less (a b : Term) : WT a 0 → WT b 0 → WT (.mk 7 0 [a, b]) 1
  | eq (a b : Term) (k : Int) : WT a k → WT b k → WT (.mk 8 0 [a, b]) 1
  | ar (o : Int) (a b : Term) : 9 ≤ o → o ≤ 13 → WT a 0 → WT b 0 → WT (.mk o 0 [a, b]) 0
theorem chkA_ok2 : ∀ (l : List Term) (ty : List Int), (chkA l ty).1 = 0 → (∀ x ∈ l, (chk x).2 = 0) ∧ (chkA l ty).2 = ty ++ l.map fun x => (chk x).1
  | [], ty, _ => by simp [chkA]
  | t :: l, ty, h => by
    simp only [chkA] at h ⊢
    split at h
    · rename_i hc; exact absurd h hc
    · rename_i hc
      obtain ⟨h1, h2⟩ := chkA_ok2 l _ h
      rw [if_neg hc, h2]
      refine ⟨fun x hx => ?_, by simp⟩
      rcases List.mem_cons.1 hx with rfl | hx
      · simpa using hc
      · exact h1 x hx
theorem node_leaf {t : Term} {ty : List Int} (r : ¬ (t.op < 0 ∨ t.op > 13)) (h3 : t.op = 0 ∨ t.op = 1 ∨ t.op = 2) : node t ty = leaf t := by simp only [node, if_neg r, if_pos h3]
theorem node_bad {t : Term} {ty : List Int} (r : t.op < 0 ∨ t.op > 13) : node t ty = (0, 1) := by simp only [node, if_pos r]
theorem node_form {t : Term} {ty : List Int} (r : ¬ (t.op < 0 ∨ t.op > 13)) (h3 : ¬ (t.op = 0 ∨ t.op = 1 ∨ t.op = 2)) (h : ty.length ≠ (shapeArgs t.op).length ∨ t.n ≠ 0) : node t ty = (0, 2) := by simp only [node, if_neg r, if_neg h3, if_pos h]
theorem leaf_args {t : Term} (h : (leaf t).2 = 0) : t.args = [] := by
  by_cases hl : t.args.length > 0
  · simp only [leaf, if_pos hl] at h; simp at h
  · exact List.length_eq_zero_iff.1 (by omega)
theorem leaf_0 {t : Term} (ha : t.args = []) (h0 : t.op = 0) (h : (leaf t).2 = 0) : leaf t = (0, 0) ∧ inN t.n := by
  have hl : ¬ (t.args.length > 0) := by rw [ha]; simp
  by_cases hc : cut t.n ≠ t.n
  · simp only [leaf, if_neg hl, if_pos h0, if_pos hc] at h; simp at h
  · simp only [leaf, if_neg hl, if_pos h0, if_neg hc]
    exact ⟨trivial, (cut_eq t.n).1 (by simpa using hc)⟩
theorem leaf_1 {t : Term} (ha : t.args = []) (h0 : t.op = 1) (h : (leaf t).2 = 0) : leaf t = (1, 0) ∧ (t.n = 0 ∨ t.n = 1) := by
  have hl : ¬ (t.args.length > 0) := by rw [ha]; simp
  have h0' : ¬ t.op = 0 := by omega
  by_cases hc : t.n < 0 ∨ t.n > 1
  · simp only [leaf, if_neg hl, if_neg h0', if_pos h0, if_pos hc] at h; simp at h
  · simp only [leaf, if_neg hl, if_neg h0', if_pos h0, if_neg hc]
    exact ⟨trivial, by omega⟩
theorem leaf_2 {t : Term} (ha : t.args = []) (h0 : t.op = 2) (h : (leaf t).2 = 0) : leaf t = (if t.n < 7 then 0 else 1, 0) ∧ 0 ≤ t.n ∧ t.n < 20 := by
  have hl : ¬ (t.args.length > 0) := by rw [ha]; simp
  have h0' : ¬ t.op = 0 := by omega
  have h1' : ¬ t.op = 1 := by omega
  by_cases hc : t.n < 0 ∨ t.n > 19
  · simp only [leaf, varType, if_neg hl, if_neg h0', if_neg h1', if_pos hc] at h; simp at h
  · simp only [leaf, varType, if_neg hl, if_neg h0', if_neg h1', if_neg hc]
    refine ⟨?_, by omega, by omega⟩
    by_cases h7 : t.n < 7
    · simp only [if_pos h7]
    · simp only [if_neg h7]
theorem Term.eta {t : Term} {o n : Int} {a : List Term} (h1 : t.op = o) (h2 : t.n = n) (h3 : t.args = a) : t = .mk o n a := by cases t; simp_all [Term.op, Term.n, Term.args]
theorem wt_op {o : Int} {a : List Term} {ty : List Int} (hty : ty = a.map fun x => (chk x).1) (ih : ∀ x ∈ a, WT x (chk x).1) (h3 : 3 ≤ o) (h13 : o ≤ 13) (har : (a.length : Int) = arity o) (hk : kindB o ty = true) : WT (.mk o 0 a) (kindK o ty) := by
  subst hty
  have n3 : ¬ (o = 0 ∨ o = 1 ∨ o = 2) := by omega
  by_cases e3 : o = 3
  · subst e3
    have h1 : arity 3 = 1 := by decide
    obtain ⟨x, rfl⟩ := list1 (l := a) (by omega)
    have hk : (chk x).1 = 1 := of_decide_eq_true hk
    have := ih x (by simp)
    rw [hk] at this
    exact WT.not x this
  by_cases e6 : o = 6
  · subst e6
    have h1 : arity 6 = 3 := by decide
    obtain ⟨x, y, z, rfl⟩ := list3 (l := a) (by omega)
    have hk : (chk x).1 = 1 ∧ (chk y).1 = (chk z).1 := of_decide_eq_true hk
    have wx := ih x (by simp)
    have wy := ih y (by simp)
    have wz := ih z (by simp)
    rw [hk.1] at wx
    rw [← hk.2] at wz
    exact WT.ite x y z _ wx wy wz
  have h2 : arity o = 2 := by rw [arity, if_neg n3, if_neg e3, if_neg e6]
  obtain ⟨x, y, rfl⟩ := list2 (l := a) (by omega)
  have wx := ih x (by simp)
  have wy := ih y (by simp)
  by_cases e45 : o = 4 ∨ o = 5
  · have hk2 : (chk x).1 = 1 ∧ (chk y).1 = 1 := by
      rw [kindB, if_neg e3, if_pos e45] at hk
      exact of_decide_eq_true hk
    rw [hk2.1] at wx
    rw [hk2.2] at wy
    have e : kindK o (List.map (fun x => (chk x).1) [x, y]) = 1 := by rw [kindK, if_pos (by omega)]
    rw [e]
    exact WT.andor o x y e45 wx wy
  by_cases e8 : o = 8
  · subst e8
    have hk2 : (chk x).1 = (chk y).1 := of_decide_eq_true hk
    rw [← hk2] at wy
    exact WT.eq x y _ wx wy
  have hk2 : (chk x).1 = 0 ∧ (chk y).1 = 0 := by
    rw [kindB, if_neg e3, if_neg e45, if_neg e6, if_neg e8] at hk
    exact of_decide_eq_true hk
  rw [hk2.1] at wx
  rw [hk2.2] at wy
  by_cases e7 : o = 7
  · subst e7; exact WT.less x y wx wy
  have e : kindK o (List.map (fun x => (chk x).1) [x, y]) = 0 := by rw [kindK, if_neg (by omega), if_neg e6]
  rw [e]
  exact WT.ar o x y (by omega) (by omega) wx wy
theorem wt_of : ∀ (t : Term), (chk t).2 = 0 → WT t (chk t).1 := by
  have main : ∀ t : Term, (∀ x ∈ t.args, (chk x).2 = 0 → WT x (chk x).1) → (chk t).2 = 0 → WT t (chk t).1 := by
    intro t ih h
    rw [chk_eq] at h ⊢
    by_cases h1 : (chkA t.args []).1 ≠ 0
    · rw [if_pos h1] at h
      exact absurd h h1
    have h1' : (chkA t.args []).1 = 0 := by simpa using h1
    obtain ⟨g1, g2⟩ := chkA_ok2 t.args [] h1'
    rw [if_neg h1] at h ⊢
    rw [g2, List.nil_append] at h ⊢
    have ih' : ∀ x ∈ t.args, WT x (chk x).1 := fun x hx => ih x hx (g1 x hx)
    by_cases r : t.op < 0 ∨ t.op > 13
    · rw [node_bad r] at h; simp at h
    by_cases h3 : t.op = 0 ∨ t.op = 1 ∨ t.op = 2
    · rw [node_leaf r h3] at h ⊢
      have ha := leaf_args h
      rcases h3 with h0 | h0 | h0
      · obtain ⟨e1, e2⟩ := leaf_0 ha h0 h
        rw [e1, Term.eta h0 rfl ha]
        exact WT.int _ e2
      · obtain ⟨e1, e2⟩ := leaf_1 ha h0 h
        rw [e1, Term.eta h0 rfl ha]
        exact WT.bool _ e2
      · obtain ⟨e1, e2, e3⟩ := leaf_2 ha h0 h
        rw [e1]
        have := WT.var t.n e2 e3
        rw [← Term.eta (t := t) h0 rfl ha] at this
        exact this
    have hf : ¬ ((t.args.map fun x => (chk x).1).length ≠ (shapeArgs t.op).length ∨ t.n ≠ 0) := by
      intro hc
      rw [node_form r h3 hc] at h; simp at h
    simp only [not_or, Decidable.not_not] at hf
    obtain ⟨hlen, hn0⟩ := hf
    have h3' : 3 ≤ t.op := by omega
    have har := arity_shape h3'
    have hty := node_typed t (t.args.map fun x => (chk x).1) (by intro x hx; obtain ⟨y, _, rfl⟩ := List.mem_map.1 hx; exact chk_ty y) (by omega) (by omega) (by rw [hlen]; exact har.symm) h3' hn0
    rw [hty] at h ⊢
    by_cases hk : kindB t.op (t.args.map fun x => (chk x).1) = true
    · rw [if_pos hk]
      have := wt_op rfl ih' h3' (by omega) (by rw [har, ← hlen, List.length_map]) hk
      rw [← Term.eta (t := t) rfl hn0 rfl] at this
      exact this
    · rw [if_neg hk] at h
      simp at h
  refine Term.ind fun o n a ih => main _ ih
def VR (k : Int) (c : Cell) : Prop := if c.known = true then inN c.n ∧ (k = 1 → c.n = 0 ∨ c.n = 1) else c.n = 0
theorem VR.unknown (k : Int) : VR k ⟨false, 0⟩ := by simp [VR]
theorem VR.yes (k : Int) (b : Bool) : VR k (yes b) := by cases b <;> simp [VR, Abs.yes, inN]
theorem cut_in (n : Int) : inN (cut n) := by unfold inN cut; omega
theorem VR.logic {a b : Cell} {k : Int} (hk : k = 0 ∨ k = 1) : VR 1 (logic a b k) := by
  unfold Abs.logic
  split
  · rcases hk with rfl | rfl <;> simp [VR, inN]
  · split
    · rcases hk with rfl | rfl <;> simp [VR, inN]
    · exact VR.unknown 1
theorem VR.number {op a b : Int} (ha : inN a) (hb : inN b) : VR (if op = 7 ∨ op = 8 then 1 else 0) (number op a b) := by
  unfold Abs.number
  by_cases h7 : op = 7
  · rw [if_pos h7]; exact VR.yes _ _
  by_cases h8 : op = 8
  · rw [if_neg h7, if_pos h8]; exact VR.yes _ _
  rw [if_neg h7, if_neg h8, if_neg (by omega)]
  unfold inN at ha hb
  have c1 := cut_in (a + b)
  have c2 := cut_in (a - b)
  have c3 := cut_in (a * b)
  unfold inN at c1 c2 c3
  unfold times
  (repeat' split) <;> simp [VR, inN] <;> omega
theorem VR.value {n : Int} {cells : List Cell} (h0 : 0 ≤ n) (h20 : n < 20) : VR (if n < 7 then 0 else 1) (valueC n cells) := by
  have hv : (varType n).getD 0 = if n < 7 then 0 else 1 := by
    unfold varType
    rw [if_neg (by omega)]
    split <;> rfl
  have hk : (if n < 7 then (0 : Int) else 1) = 0 ∨ (if n < 7 then (0 : Int) else 1) = 1 := by split <;> simp
  generalize (if n < 7 then (0 : Int) else 1) = k at hv hk ⊢
  unfold valueC
  rw [hv]
  have hc := cut_in (cells.getD n.toNat ⟨false, 0⟩).n
  split
  · exact VR.unknown _
  split
  · exact VR.unknown _
  split
  · rename_i hz
    simp only [VR, if_true]
    exact ⟨hc, fun h => by omega⟩
  · split <;> simp [VR, inN]
section
variable (c : List Cell)
theorem ev_int (n : Int) : eval (.mk 0 n []) c = ⟨true, n⟩ := by rw [eval_eq]; simp [Term.op, Term.n]
theorem ev_bool (n : Int) : eval (.mk 1 n []) c = ⟨true, n⟩ := by rw [eval_eq]; simp [Term.op, Term.n]
theorem ev_var (n : Int) (a : List Term) : eval (.mk 2 n a) c = valueC n c := by rw [eval_eq]; simp [Term.op, Term.n]
theorem ev_not (n : Int) (a : Term) : eval (.mk 3 n [a]) c = if (eval a c).known = false then ⟨false, 0⟩ else ⟨true, 1 - (eval a c).n⟩ := by rw [eval_eq]; simp [Term.op, Term.args, evalN]
theorem ev_and (n : Int) (a b : Term) : eval (.mk 4 n [a, b]) c = logic (eval a c) (eval b c) 0 := by rw [eval_eq]; simp [Term.op, Term.args, evalN]
theorem ev_or (n : Int) (a b : Term) : eval (.mk 5 n [a, b]) c = logic (eval a c) (eval b c) 1 := by rw [eval_eq]; simp [Term.op, Term.args, evalN]
theorem ev_ite (n : Int) (x y z : Term) : eval (.mk 6 n [x, y, z]) c = if (eval x c).known = true then ([eval x c, eval y c, eval z c].getD (2 - (eval x c).n).toNat ⟨false, 0⟩)
    else if (eval y c).known = true ∧ (eval z c).known = true ∧ (eval y c).n = (eval z c).n then eval y c else ⟨false, 0⟩ := by rw [eval_eq]; simp [Term.op, Term.args, evalN]
theorem ev_bin {o : Int} (h7 : 7 ≤ o) (n : Int) (a b : Term) : eval (.mk o n [a, b]) c = if (eval a c).known = false ∨ (eval b c).known = false then ⟨false, 0⟩ else number o (eval a c).n (eval b c).n := by
  rw [eval_eq]
  have e0 : ¬ (o = 0 ∨ o = 1) := by omega
  have e2 : ¬ o = 2 := by omega
  have e3 : ¬ o = 3 := by omega
  have e4 : ¬ o = 4 := by omega
  have e5 : ¬ o = 5 := by omega
  have e6 : ¬ o = 6 := by omega
  simp [Term.op, Term.args, evalN, e0, e2, e3, e4, e5, e6]
end
theorem number_known (o a b : Int) : (number o a b).known = true := by
  unfold number
  (repeat' split) <;> simp [yes] <;> (split <;> rfl)
theorem vr_eval {t : Term} {k : Int} (h : WT t k) (cells : List Cell) : VR k (eval t cells) := by
  induction h with
  | int n h => rw [eval_eq]; simp only [Term.op, Term.n]; simp [VR, h]
  | bool n h => rw [eval_eq]; simp only [Term.op, Term.n]; simp [VR, inN, h]; omega
  | var n h0 h20 => rw [eval_eq]; simp only [Term.op, Term.n]; simpa using VR.value (cells := cells) h0 h20
  | not a _ ih =>
    rw [eval_eq]
    simp only [Term.op, Term.n, Term.args, List.map]
    generalize eval a cells = c at ih
    obtain ⟨ck, cn⟩ := c
    cases ck
    · simp [evalN, VR]
    · have ih' : cn = 0 ∨ cn = 1 := by simpa [VR, inN] using ih.2 rfl
      rcases ih' with rfl | rfl <;> simp [evalN, VR, inN]
  | andor o a b ho _ _ iha ihb =>
    rw [eval_eq]
    simp only [Term.op, Term.n, Term.args, List.map]
    rcases ho with rfl | rfl
    · simpa [evalN] using VR.logic (a := eval a cells) (b := eval b cells) (k := 0) (.inl rfl)
    · simpa [evalN] using VR.logic (a := eval a cells) (b := eval b cells) (k := 1) (.inr rfl)
  | ite a b c k _ _ _ iha ihb ihc =>
    rw [ev_ite]
    split
    · rename_i hx
      simp only [VR, hx, if_true] at iha
      rcases iha.2 trivial with h0 | h0 <;> rw [h0]
      · exact ihc
      · exact ihb
    · split
      · exact ihb
      · exact VR.unknown _
  | less a b _ _ iha ihb =>
    rw [eval_eq]
    simp only [Term.op, Term.n, Term.args, List.map]
    generalize eval a cells = x at iha
    generalize eval b cells = y at ihb
    obtain ⟨xk, xn⟩ := x
    obtain ⟨yk, yn⟩ := y
    cases xk <;> cases yk <;> simp [evalN, VR.unknown]
    have := VR.number (op := 7) (a := xn) (b := yn) (by simpa [VR] using iha.1) (by simpa [VR] using ihb.1)
    simpa using this
  | eq a b k _ _ iha ihb =>
    rw [eval_eq]
    simp only [Term.op, Term.n, Term.args, List.map]
    generalize eval a cells = x at iha
    generalize eval b cells = y at ihb
    obtain ⟨xk, xn⟩ := x
    obtain ⟨yk, yn⟩ := y
    cases xk <;> cases yk <;> simp [evalN, VR.unknown]
    have := VR.number (op := 8) (a := xn) (b := yn) (by simpa [VR] using iha.1) (by simpa [VR] using ihb.1)
    simpa using this
  | ar o a b h9 h13 _ _ iha ihb =>
    rw [eval_eq]
    simp only [Term.op, Term.n, Term.args, List.map]
    generalize eval a cells = x at iha
    generalize eval b cells = y at ihb
    obtain ⟨xk, xn⟩ := x
    obtain ⟨yk, yn⟩ := y
    have e0 : ¬ (o = 0 ∨ o = 1) := by omega
    have e2 : ¬ o = 2 := by omega
    have e3 : ¬ o = 3 := by omega
    have e4 : ¬ o = 4 := by omega
    have e5 : ¬ o = 5 := by omega
    have e6 : ¬ o = 6 := by omega
    cases xk <;> cases yk <;> simp [evalN, VR.unknown, e0, e2, e3, e4, e5, e6]
    have := VR.number (op := o) (a := xn) (b := yn) (by simpa [VR] using iha.1) (by simpa [VR] using ihb.1)
    rw [if_neg (by omega)] at this
    exact this
end Go.Abs


namespace Go.Abs
mutual
def runN : Term → List Cell → List Int
  | .mk o n a, c => if o = 0 ∨ o = 1 then [] else if o = 2 then (if (valueC n c).known = true then [] else [n])
    else if o = 6 ∧ ((evalL a c).getD 0 ⟨false, 0⟩).known = true then (runNL a c).getD (2 - ((evalL a c).getD 0 ⟨false, 0⟩).n).toNat []
    else if (evalN o (evalL a c)).known = true then [] else (runNL a c).flatten
def runNL : List Term → List Cell → List (List Int)
  | [], _ => []
  | t :: l, c => runN t c :: runNL l c
end
theorem runNL_map (c : List Cell) : ∀ l, runNL l c = l.map fun t => runN t c
  | [] => rfl
  | t :: l => by simp [runNL, runNL_map c l]
theorem runN_eq (t : Term) (c : List Cell) : runN t c = if t.op = 0 ∨ t.op = 1 then [] else if t.op = 2 then (if (valueC t.n c).known = true then [] else [t.n])
    else if t.op = 6 ∧ ((t.args.map fun a => eval a c).getD 0 ⟨false, 0⟩).known = true then (t.args.map fun a => runN a c).getD (2 - ((t.args.map fun a => eval a c).getD 0 ⟨false, 0⟩).n).toNat []
    else if (evalN t.op (t.args.map fun a => eval a c)).known = true then [] else (t.args.map fun a => runN a c).flatten := by
  cases t; simp only [runN, evalL_map, runNL_map, Term.op, Term.n, Term.args]; rfl
section
variable (c : List Cell)
theorem rn_leaf (o n : Int) (a : List Term) (h : o = 0 ∨ o = 1) : runN (.mk o n a) c = [] := by rw [runN_eq]; simp [Term.op, h]
theorem rn_var (n : Int) (a : List Term) : runN (.mk 2 n a) c = if (valueC n c).known = true then [] else [n] := by rw [runN_eq]; simp [Term.op, Term.n]; rfl
theorem rn_op {o : Int} (h3 : 3 ≤ o) (h6 : o ≠ 6) (n : Int) (a : List Term) : runN (.mk o n a) c = if (eval (.mk o n a) c).known = true then [] else (a.map fun t => runN t c).flatten := by
  have e0 : ¬ (o = 0 ∨ o = 1) := by omega
  have e2 : ¬ o = 2 := by omega
  have e : evalN o (a.map fun t => eval t c) = eval (.mk o n a) c := by
    rw [eval_eq]; simp [Term.op, Term.args, e0, e2]
  rw [runN_eq]
  simp only [Term.op, Term.args, e0, e2, h6, e, if_false, false_and]
theorem rn_ite (n : Int) (x y z : Term) : runN (.mk 6 n [x, y, z]) c = if (eval x c).known = true then [runN x c, runN y c, runN z c].getD (2 - (eval x c).n).toNat []
    else if (eval (.mk 6 n [x, y, z]) c).known = true then [] else runN x c ++ (runN y c ++ runN z c) := by
  have e : evalN 6 [eval x c, eval y c, eval z c] = eval (.mk 6 n [x, y, z]) c := by
    rw [eval_eq (.mk 6 n [x, y, z])]; simp [Term.op, Term.args]
  rw [runN_eq]
  simp only [Term.op, Term.args, List.map, e]
  simp
end
theorem logic_known {a b : Cell} {k : Int} : (logic a b k).known = true ↔ (a.known = true ∧ a.n = k ∨ b.known = true ∧ b.n = k) ∨ (a.known = true ∧ b.known = true) := by
  unfold logic
  split
  · rename_i h; simp [h]
  · rename_i h
    split
    · rename_i h2; simp [h2]
    · rename_i h2; simp [h, h2]
theorem bit_of {k : Int} {x : Cell} (h : VR 1 x) (hk : x.known = true) : x.n = 0 ∨ x.n = 1 := by
  simp only [VR, hk, if_true] at h; exact h.2 trivial
theorem runN_nil {t : Term} {k : Int} (h : WT t k) (c : List Cell) : runN t c = [] ↔ (eval t c).known = true := by
  induction h with
  | int n _ => rw [rn_leaf _ _ _ _ (.inl rfl), ev_int]; simp
  | bool n _ => rw [rn_leaf _ _ _ _ (.inr rfl), ev_bool]; simp
  | var n _ _ => rw [rn_var, ev_var]; cases (valueC n c).known <;> simp
  | not a _ ih =>
    rw [rn_op _ (by omega) (by omega)]
    cases hk : (eval (.mk 3 0 [a]) c).known
    · rw [ev_not] at hk
      cases ha : (eval a c).known
      · have : runN a c ≠ [] := fun h => by rw [ih.1 h] at ha; cases ha
        simp [this]
      · simp [ha] at hk
    · simp
  | andor o a b ho _ _ iha ihb =>
    rw [rn_op _ (by omega) (by omega)]
    cases hk : (eval (.mk o 0 [a, b]) c).known
    · have hl : ¬ ((eval a c).known = true ∧ (eval b c).known = true) := by
        intro h2
        rcases ho with rfl | rfl
        · rw [ev_and, (logic_known.2 (.inr h2))] at hk; cases hk
        · rw [ev_or, (logic_known.2 (.inr h2))] at hk; cases hk
      rw [← iha, ← ihb] at hl
      simp; exact fun h1 h2 => hl ⟨h1, h2⟩
    · simp
  | ite x y z k wx _ _ ihx ihy ihz =>
    rw [rn_ite]
    cases hx : (eval x c).known
    · have : runN x c ≠ [] := fun h => by rw [ihx.1 h] at hx; cases hx
      simp only [Bool.false_eq_true, if_false]
      cases hk : (eval (.mk 6 0 [x, y, z]) c).known
      · simp [this]
      · simp
    · rw [ev_ite]
      simp only [hx, if_true]
      rcases bit_of (k := 1) (vr_eval wx c) hx with h0 | h0 <;> rw [h0] <;> simp
      · exact ihz
      · exact ihy
  | less a b _ _ iha ihb =>
    rw [rn_op _ (by omega) (by omega)]
    cases hk : (eval (.mk 7 0 [a, b]) c).known
    · rw [ev_bin _ (by omega)] at hk
      have hl : ¬ ((eval a c).known = true ∧ (eval b c).known = true) := by
        rintro ⟨h1, h2⟩; rw [h1, h2] at hk; simp [number_known] at hk
      rw [← iha, ← ihb] at hl
      simp; exact fun h1 h2 => hl ⟨h1, h2⟩
    · simp
  | eq a b k _ _ iha ihb =>
    rw [rn_op _ (by omega) (by omega)]
    cases hk : (eval (.mk 8 0 [a, b]) c).known
    · rw [ev_bin _ (by omega)] at hk
      have hl : ¬ ((eval a c).known = true ∧ (eval b c).known = true) := by
        rintro ⟨h1, h2⟩; rw [h1, h2] at hk; simp [number_known] at hk
      rw [← iha, ← ihb] at hl
      simp; exact fun h1 h2 => hl ⟨h1, h2⟩
    · simp
  | ar o a b h9 _ _ _ iha ihb =>
    rw [rn_op _ (by omega) (by omega)]
    cases hk : (eval (.mk o 0 [a, b]) c).known
    · rw [ev_bin _ (by omega)] at hk
      have hl : ¬ ((eval a c).known = true ∧ (eval b c).known = true) := by
        rintro ⟨h1, h2⟩; rw [h1, h2] at hk; simp [number_known] at hk
      rw [← iha, ← ihb] at hl
      simp; exact fun h1 h2 => hl ⟨h1, h2⟩
    · simp
theorem used_op {o n : Int} {a : List Term} (h : o ≠ 2) (v : Int) : used (.mk o n a) v = usedL a v := by rw [used_eq]; simp [Term.op, Term.args, h]
theorem usedL_any (v : Int) : ∀ l : List Term, usedL l v = l.any fun t => used t v
  | [] => rfl
  | t :: l => by simp only [usedL, List.any_cons, usedL_any v l]; cases used t v <;> simp
theorem runN_mem {t : Term} {k : Int} (h : WT t k) (c : List Cell) : ∀ v ∈ runN t c, (valueC v c).known = false ∧ used t v = true ∧ 0 ≤ v ∧ v < 20 := by
  have sub : ∀ {o n : Int} {a : List Term}, 3 ≤ o → o ≠ 6 → (∀ t ∈ a, ∀ v ∈ runN t c, (valueC v c).known = false ∧ used t v = true ∧ 0 ≤ v ∧ v < 20) → ∀ v ∈ runN (.mk o n a) c, (valueC v c).known = false ∧ used (.mk o n a) v = true ∧ 0 ≤ v ∧ v < 20 := by
    intro o n a h3 h6 ih v hv
    rw [rn_op _ h3 h6] at hv
    split at hv
    · simp at hv
    · simp only [List.mem_flatten, List.mem_map] at hv
      obtain ⟨l, ⟨t, ht, rfl⟩, hv⟩ := hv
      obtain ⟨g1, g2, g3⟩ := ih t ht v hv
      refine ⟨g1, ?_, g3⟩
      rw [used_op (by omega), usedL_any, List.any_eq_true]
      exact ⟨t, ht, g2⟩
  induction h with
  | int n _ => rw [rn_leaf _ _ _ _ (.inl rfl)]; simp
  | bool n _ => rw [rn_leaf _ _ _ _ (.inr rfl)]; simp
  | var n h0 h20 =>
    rw [rn_var]
    cases hv : (valueC n c).known
    · intro v hm
      simp at hm
      subst hm
      exact ⟨hv, by rw [used_eq]; simp [Term.op, Term.n], h0, h20⟩
    · simp
  | not a _ ih => exact sub (by omega) (by omega) (by simpa using ih)
  | andor o a b ho _ _ iha ihb => exact sub (by omega) (by omega) (by simp only [List.mem_cons, List.not_mem_nil, or_false, forall_eq_or_imp, forall_eq]; exact ⟨iha, ihb⟩)
  | less a b _ _ iha ihb => exact sub (by omega) (by omega) (by simp only [List.mem_cons, List.not_mem_nil, or_false, forall_eq_or_imp, forall_eq]; exact ⟨iha, ihb⟩)
  | eq a b k _ _ iha ihb => exact sub (by omega) (by omega) (by simp only [List.mem_cons, List.not_mem_nil, or_false, forall_eq_or_imp, forall_eq]; exact ⟨iha, ihb⟩)
  | ar o a b _ _ _ _ iha ihb => exact sub (by omega) (by omega) (by simp only [List.mem_cons, List.not_mem_nil, or_false, forall_eq_or_imp, forall_eq]; exact ⟨iha, ihb⟩)
  | ite x y z k wx _ _ ihx ihy ihz =>
    intro v hv
    rw [used_op (by omega), usedL_any]
    simp only [List.any_cons, List.any_nil, Bool.or_false, Bool.or_eq_true]
    rw [rn_ite] at hv
    cases hx : (eval x c).known
    · simp only [hx, Bool.false_eq_true, if_false] at hv
      split at hv
      · simp at hv
      · simp only [List.mem_append] at hv
        rcases hv with hv | hv | hv
        · obtain ⟨g1, g2, g3⟩ := ihx v hv; exact ⟨g1, .inl g2, g3⟩
        · obtain ⟨g1, g2, g3⟩ := ihy v hv; exact ⟨g1, .inr (.inl g2), g3⟩
        · obtain ⟨g1, g2, g3⟩ := ihz v hv; exact ⟨g1, .inr (.inr g2), g3⟩
    · simp only [hx, if_true] at hv
      rcases bit_of (k := 1) (vr_eval wx c) hx with h0 | h0 <;> rw [h0] at hv <;> simp at hv
      · obtain ⟨g1, g2, g3⟩ := ihz v hv; exact ⟨g1, .inr (.inr g2), g3⟩
      · obtain ⟨g1, g2, g3⟩ := ihy v hv; exact ⟨g1, .inr (.inl g2), g3⟩
theorem eval_all {c : List Cell} {t : Term} {k : Int} (h : WT t k) : (∀ v, used t v = true → (valueC v c).known = true) → (eval t c).known = true := by
  intro hv
  apply Classical.byContradiction
  intro hc
  have hn : runN t c ≠ [] := fun h2 => hc ((runN_nil h c).1 h2)
  obtain ⟨v, hm⟩ := List.exists_mem_of_ne_nil _ hn
  obtain ⟨g1, g2, _⟩ := runN_mem h c v hm
  rw [hv v g2] at g1; cases g1
end Go.Abs


namespace Go.Abs
theorem asc_ext : ∀ (l m : List Int), l.Pairwise (· < ·) → m.Pairwise (· < ·) → (∀ x, x ∈ l ↔ x ∈ m) → l = m
  | [], [], _, _, _ => rfl
  | [], b :: m, _, _, h => by have := (h b).2 (by simp); simp at this
  | a :: l, [], _, _, h => by have := (h a).1 (by simp); simp at this
  | a :: l, b :: m, hl, hm, h => by
    rw [List.pairwise_cons] at hl hm
    have hab : a = b := by
      have h1 := (h a).1 (by simp)
      have h2 := (h b).2 (by simp)
      rcases List.mem_cons.1 h1 with h1 | h1
      · exact h1
      · rcases List.mem_cons.1 h2 with h2 | h2
        · exact h2.symm
        · have := hl.1 b h2; have := hm.1 a h1; omega
    subst hab
    rw [asc_ext l m hl.2 hm.2 (fun x => ?_)]
    have hx := h x
    simp only [List.mem_cons] at hx
    constructor
    · intro hxl
      rcases hx.1 (.inr hxl) with rfl | hxm
      · have := hl.1 x hxl; omega
      · exact hxm
    · intro hxm
      rcases hx.2 (.inr hxm) with rfl | hxl
      · have := hm.1 x hxm; omega
      · exact hxl
theorem upto_asc (n : Nat) : (upto n).Pairwise (· < ·) := by
  unfold upto
  rw [List.pairwise_map]
  exact List.pairwise_lt_range.imp (fun h => by omega)
theorem mem_upto (n : Nat) (x : Int) : x ∈ upto n ↔ 0 ≤ x ∧ x < n := by
  simp only [upto, List.mem_map, List.mem_range]
  constructor
  · rintro ⟨a, h, rfl⟩; omega
  · rintro ⟨h1, h2⟩; exact ⟨x.toNat, by omega, by omega⟩
theorem sortI_asc (l : List Int) : (sortI l).Pairwise (· ≤ ·) := by
  have := List.pairwise_mergeSort (le := fun x y : Int => decide (x ≤ y)) (fun a b c h1 h2 => by simp at *; omega) (fun a b => by simp; omega) l
  exact this.imp (fun h => by simpa using h)
theorem mem_sortI (l : List Int) (x : Int) : x ∈ sortI l ↔ x ∈ l := List.mem_mergeSort
theorem compact_asc (l : List Int) (hs : l.Pairwise (· ≤ ·)) : (Lib.compact l).Pairwise (· < ·) ∧ ∀ x, x ∈ Lib.compact l ↔ x ∈ l := by
  have hget : ∀ i j, i ≤ j → j < l.length → l.toArray[i]! ≤ l.toArray[j]! := by
    intro i j hij hj
    rw [getElem!_pos l.toArray i (by simp; omega), getElem!_pos l.toArray j (by simpa using hj)]
    simp only [List.getElem_toArray]
    rcases Nat.eq_or_lt_of_le hij with h | h
    · subst h; omega
    · exact List.pairwise_iff_getElem.1 hs i j (by omega) hj h
  have key : ∀ m, m ≤ l.length → (Lib.compactUpTo l.toArray m).Pairwise (· < ·) ∧ ∀ x, x ∈ Lib.compactUpTo l.toArray m ↔ ∃ j, j < m ∧ l.toArray[j]! = x := by
    intro m
    induction m with
    | zero => intro _; simp [Lib.compactUpTo]
    | succ m ih =>
      intro hm
      obtain ⟨h1, h2⟩ := ih (by omega)
      have hsucc : Lib.compactUpTo l.toArray (m + 1) = Lib.compactUpTo l.toArray m ++ (if Lib.keeps l.toArray m = true then [l.toArray[m]!] else []) := by
        unfold Lib.compactUpTo
        rw [List.range_succ, List.filter_append, List.map_append]
        congr 1
        by_cases hk : Lib.keeps l.toArray m = true <;> simp [hk]
      rw [hsucc]
      by_cases hk : Lib.keeps l.toArray m = true
      · rw [if_pos hk]
        refine ⟨?_, fun x => ?_⟩
        · rw [List.pairwise_append]
          refine ⟨h1, by simp, fun a ha b hb => ?_⟩
          have hb := List.mem_singleton.1 hb
          subst hb
          obtain ⟨j, hj, rfl⟩ := (h2 a).1 ha
          have hle := hget j m (by omega) (by omega)
          have hk' : m = 0 ∨ l.toArray[m]! ≠ l.toArray[m - 1]! := by simpa [Lib.keeps] using hk
          rcases hk' with h0 | hne
          · omega
          · have ha := hget j (m - 1) (by omega) (by omega)
            have hb := hget (m - 1) m (by omega) (by omega)
            omega
        · rw [List.mem_append, h2]
          simp only [List.mem_singleton]
          constructor
          · rintro (⟨j, hj, rfl⟩ | rfl)
            · exact ⟨j, by omega, rfl⟩
            · exact ⟨m, by omega, rfl⟩
          · rintro ⟨j, hj, rfl⟩
            rcases Nat.lt_or_ge j m with h | h
            · exact .inl ⟨j, h, rfl⟩
            · have : j = m := by omega
              subst this; exact .inr rfl
      · rw [if_neg hk]
        simp only [List.append_nil]
        refine ⟨h1, fun x => ?_⟩
        rw [h2]
        have hk' : ¬ (m = 0 ∨ l.toArray[m]! ≠ l.toArray[m - 1]!) := by simpa [Lib.keeps] using hk
        have hm0 : m ≠ 0 := fun h => hk' (.inl h)
        have heq : l.toArray[m]! = l.toArray[m - 1]! := by
          by_cases h : l.toArray[m]! = l.toArray[m - 1]!
          · exact h
          · exact absurd (.inr h) hk'
        constructor
        · rintro ⟨j, hj, rfl⟩; exact ⟨j, by omega, rfl⟩
        · rintro ⟨j, hj, rfl⟩
          rcases Nat.lt_or_ge j m with h | h
          · exact ⟨j, h, rfl⟩
          · have : j = m := by omega
            subst this; exact ⟨j - 1, by omega, heq.symm⟩
  obtain ⟨h1, h2⟩ := key l.length (Nat.le_refl _)
  refine ⟨h1, fun x => ?_⟩
  show x ∈ Lib.compactUpTo l.toArray l.length ↔ _
  rw [h2, List.mem_iff_getElem]
  constructor
  · rintro ⟨j, hj, rfl⟩
    exact ⟨j, hj, by rw [getElem!_pos l.toArray j (by simpa using hj)]; simp⟩
  · rintro ⟨j, hj, rfl⟩
    exact ⟨j, hj, by rw [getElem!_pos l.toArray j (by simpa using hj)]; simp⟩
theorem cs_eq {l : List Int} {n : Nat} {p : Int → Bool} (h : ∀ x, x ∈ l ↔ (0 ≤ x ∧ x < n) ∧ p x = true) : Lib.compact (sortI l) = (upto n).filter p := by
  obtain ⟨h1, h2⟩ := compact_asc (sortI l) (sortI_asc l)
  refine asc_ext _ _ h1 ((upto_asc n).filter _) fun x => ?_
  rw [h2, mem_sortI, h, List.mem_filter, mem_upto]
theorem chk_var {t : Term} (h : (chk t).2 = 0) (h2 : t.op = 2) : t.args = [] ∧ 0 ≤ t.n ∧ t.n < 20 := by
  obtain ⟨_, h1⟩ := chk_ok h
  rw [h1] at h
  have a1 : ¬ (t.op < 0 ∨ t.op > 13) := by omega
  have a2 : t.op = 0 ∨ t.op = 1 ∨ t.op = 2 := by omega
  simp only [node, if_neg a1, if_pos a2, leaf] at h
  split at h
  · simp at h
  · rename_i hl
    rw [if_neg (by omega), if_neg (by omega)] at h
    refine ⟨List.eq_nil_of_length_eq_zero (by omega), ?_⟩
    cases hv : varType t.n with
    | none => rw [hv] at h; simp at h
    | some k => unfold varType at hv; split at hv
                · simp at hv
                · omega
theorem mem_coll : ∀ (t : Term), (chk t).2 = 0 → ∀ (acc : List Int) (v : Int), v ∈ coll t acc ↔ v ∈ acc ∨ used t v = true := by
  refine Term.ind fun o n a ih h acc v => ?_
  have hk := (chk_ok h).1
  rw [coll_eq, used_eq]
  by_cases h2 : o = 2
  · obtain ⟨h3, _⟩ := chk_var h h2
    have h3 : a = [] := h3
    subst h3
    show v ∈ collL [] (if o = 2 then acc ++ [n] else acc) ↔ v ∈ acc ∨ (if o = 2 then decide (n = v) else usedL [] v) = true
    rw [if_pos h2, if_pos h2]
    simp [collL, eq_comm]
  · show v ∈ collL a (if o = 2 then acc ++ [n] else acc) ↔ v ∈ acc ∨ (if o = 2 then decide (n = v) else usedL a v) = true
    rw [if_neg h2, if_neg h2]
    have key : ∀ (l : List Term), (∀ x ∈ l, x ∈ a) → ∀ acc, v ∈ collL l acc ↔ v ∈ acc ∨ usedL l v = true := by
      intro l
      induction l with
      | nil => intro _ acc; simp [collL, usedL]
      | cons b l ihl =>
        intro hm acc
        have hb := hm b (by simp)
        rw [collL, ihl (fun x hx => hm x (by simp [hx])), ih b hb (hk b hb), usedL]
        cases used b v <;> simp
    exact key a (fun x hx => hx) acc
theorem used_range : ∀ (t : Term), (chk t).2 = 0 → ∀ v, used t v = true → 0 ≤ v ∧ v < 20 := by
  refine Term.ind fun o n a ih h v hu => ?_
  have hk := (chk_ok h).1
  rw [used_eq] at hu
  by_cases h2 : o = 2
  · obtain ⟨_, h4⟩ := chk_var h h2
    have hu : decide (n = v) = true := by
      have e : (if o = 2 then decide (n = v) else usedL a v) = true := hu
      rwa [if_pos h2] at e
    have hu : n = v := of_decide_eq_true hu
    subst hu; exact h4
  · have hu : usedL a v = true := by
      have e : (if o = 2 then decide (n = v) else usedL a v) = true := hu
      rwa [if_neg h2] at e
    have key : ∀ (l : List Term), (∀ x ∈ l, x ∈ a) → usedL l v = true → 0 ≤ v ∧ v < 20 := by
      intro l
      induction l with
      | nil => intro _ h; simp [usedL] at h
      | cons b l ihl =>
        intro hm h
        have hb := hm b (by simp)
        rw [usedL] at h
        cases hc : used b v
        · rw [hc] at h; exact ihl (fun x hx => hm x (by simp [hx])) (by simpa using h)
        · exact ih b hb (hk b hb) v hc
    exact key a (fun x hx => hx) hu
theorem checkT_ok {t : Term} (h : (checkT t).2 = 0) : checkT t = chk t ∧ 0 ≤ nodes t 60 8 := by
  unfold checkT at h ⊢
  split at h
  · simp at h
  · rename_i hn; rw [if_neg hn]; exact ⟨rfl, by omega⟩
theorem vars_eq (t : Term) : (if (checkT t).2 ≠ 0 then [] else Lib.compact (sortI (coll t []))) = varsT t := by
  unfold varsT
  split
  · rfl
  · rename_i h
    have h : (checkT t).2 = 0 := by simpa using h
    have hc := (checkT_ok h).1
    rw [hc] at h
    refine cs_eq fun x => ?_
    rw [mem_coll t h]
    constructor
    · rintro (hx | hx)
      · simp at hx
      · exact ⟨used_range t h x hx, hx⟩
    · rintro ⟨_, hx⟩; exact .inr hx
theorem varsT_mem {t : Term} {v : Int} (h : v ∈ varsT t) : 0 ≤ v ∧ v < 20 := by
  unfold varsT at h
  split at h
  · simp at h
  · rw [List.mem_filter, mem_upto] at h; exact h.1
def usesO (o : Order) : List Int := (upto 20).filter fun v => o.rules.any fun r => hasI (varsT r.term) v
def plain (q : Int) : Bool := decide (q = 0 ∨ q = 6 ∨ q = 7)
def blindR (r : Rule) : Bool := plain r.ask && (varsT r.term).any fun v => decide (v ≥ 15)
def blindO (o : Order) : List Int := (upto 22).filter fun q => plain q && o.rules.any fun r => decide (r.ask = q) && (varsT r.term).any fun v => decide (v ≥ 15)
theorem mem_hasI (l : List Int) (v : Int) : hasI l v = true ↔ v ∈ l := by
  simp only [hasI, List.any_eq_true, decide_eq_true_eq]
  constructor
  · rintro ⟨x, h, rfl⟩; exact h
  · intro h; exact ⟨v, h, rfl⟩
theorem uses_eq (o : Order) : Lib.compact (sortI (o.rules.flatMap fun r => varsT r.term)) = usesO o := by
  refine cs_eq fun x => ?_
  simp only [List.mem_flatMap, List.any_eq_true, mem_hasI]
  constructor
  · rintro ⟨r, hr, hx⟩; exact ⟨varsT_mem hx, r, hr, hx⟩
  · rintro ⟨_, r, hr, hx⟩; exact ⟨r, hr, hx⟩
theorem blind_eq (o : Order) : Lib.compact (sortI ((o.rules.filter blindR).map (·.ask))) = blindO o := by
  refine cs_eq fun x => ?_
  simp only [List.mem_map, List.mem_filter, blindR, Bool.and_eq_true, List.any_eq_true, decide_eq_true_eq]
  constructor
  · rintro ⟨r, ⟨hr, hp, h⟩, rfl⟩
    refine ⟨?_, hp, r, hr, rfl, h⟩
    have : r.ask = 0 ∨ r.ask = 6 ∨ r.ask = 7 := by simpa [plain] using hp
    omega
  · rintro ⟨_, hp, r, hr, rfl, h⟩
    exact ⟨r, ⟨hr, hp, h⟩, rfl⟩
end Go.Abs


set_option maxRecDepth 100000
set_option maxHeartbeats 4000000
namespace Go.Abs
open Go.Proofs
def kindsC (f : Nat → Int) : List C := (List.range 22).map fun q => .int .i64 (f q)
theorem kindsC_len (f : Nat → Int) : (kindsC f).length = 22 := by simp [kindsC]
def k1 (i q : Nat) : Int := if q < i then 1 else 0
def k2 (j q : Nat) : Int := if q ∈ [6, 7, 10, 12, 13, 14, 15, 16, 20, 21].take j then 0 else 1
def asks : List Int := [6, 7, 10, 12, 13, 14, 15, 16, 20, 21]
def kindsRow : List C := kindsC fun q => qtype q
abbrev rowZ : List K := (kindsC fun _ => 0).map .c
theorem s44 : Spec Try.prog 44 [] (fun r => r = .agg kindsRow) := by
  refine Spec.of_awlS hf44 okf44 (by simp) fun S hS => ?_
  simp only [q_wpLs_eq_1, q_wpLs_eq_2, q_wpL_eq_1, q_exL_eq_1, q_exL_eq_4, q_look_eq_2, q_insT_eq_1, q_insO_eq_1, q_awl_eq_2, q_awl_eq_5, q_awl_eq_7, q_AE_thenL_eq_1, q_initT_eq_1, q_freeB_eq_1, q_freeT_eq_1, q_freeT_eq_2, q_freeO_eq_1, q_freeO_eq_2, q_V_noRef_eq_1, q_K_noRef_eq_1, q_K_noRef_eq_3, q_O_noRef_eq_1, q_List_map_cons, q_List_map_nil, q_List_all_cons, q_List_all_nil, true_and, bne_iff_ne, ne_eq, Bool.and_true, Bool.or_true, Bool.false_or, Nat.reduceBEq, Nat.zero_ne_one, not_false_eq_true, uf44, uf44b29, uf44r30, uf44b31, uf44b32, uf44r33, uf44b34, uf44r35, uf44b36]
  rw [uf44l28]
  refine awl_loop (fun i : Nat => [(0, .k (.ptr 0 0)), (1, .k (.ptr 1 0)), (5, .int .i64 i)])
    (fun i => [(0, .var 65 rowZ), (1, .var 65 ((kindsC (k1 i)).map .c))]) (fun i => i ≤ 22) (fun i => 22 - i) 0 rfl rfl (Nat.zero_le _) ?_
  intro i hi
  by_cases hlt : i < 22
  · have c1 : (i : Int) < 22 := by omega
    have c4 : IntKind.i64.wrap ((i : Int) + 1) = (i : Int) + 1 := wrap_in (by omega) (by omega)
    have c5 : i + 1 ≤ 22 := by omega
    simp only [c1, c4, c5, kindsC_len, List.length_map, q_wpLs_eq_1, q_wpLs_eq_2, q_wpL_eq_1, q_exL_eq_1, q_exL_eq_9, q_exL_eq_11, q_exL_eq_24, q_look_eq_1, q_look_eq_2, q_insT_eq_1, q_insO_eq_1, q_awl_eq_1, q_awl_eq_2, q_awl_eq_5, q_awl_eq_6, q_awl_eq_7, q_AE_thenL_eq_1, q_AE_inBlockL_eq_1, q_putK_eq_1, q_vBin_eq_1, q_resV_eq_1, q_binV_eq_1, q_binInt_eq_3, q_cutInt_eq_1, q_cutInt_eq_8, q_vIaddrA_eq_1, q_V_cells_eq_1, q_splice_eq_1, q_isVarO_eq_1, q_stVarK_eq_1, q_storeK_eq_1, q_List_length_cons, q_List_length_nil, true_and, if_true, and_self, Nat.reduceBEq, Nat.zero_add, Int.toNat_natCast, Int.natCast_nonneg, q_learn_eq_1, q_condK_eq_1, q_condB_eq_1, decide_true, List.length_map, lookT_here, lookT_next, Int.cast_ofNat_Int, lookO_here, lookO_next, Nat.mul_one, uf44r18, uf44r19, uf44r20, uf44b21, uf44b22, uf44b23, uf44b24, uf44b25, uf44r26, uf44b27]
    refine Next.intro (i + 1) rfl ?_ (by omega) (by omega)
    have h22 : i = 0 ∨ i = 1 ∨ i = 2 ∨ i = 3 ∨ i = 4 ∨ i = 5 ∨ i = 6 ∨ i = 7 ∨ i = 8 ∨ i = 9 ∨ i = 10 ∨ i = 11 ∨ i = 12 ∨ i = 13 ∨ i = 14 ∨ i = 15 ∨ i = 16 ∨ i = 17 ∨ i = 18 ∨ i = 19 ∨ i = 20 ∨ i = 21 := by omega
    rcases h22 with rfl | rfl | rfl | rfl | rfl | rfl | rfl | rfl | rfl | rfl | rfl | rfl | rfl | rfl | rfl | rfl | rfl | rfl | rfl | rfl | rfl | rfl <;> rfl
  · have c1 : ¬ (i : Int) < 22 := by omega
    obtain rfl : i = 22 := by omega
    simp only [c1, q_wpLs_eq_1, q_wpLs_eq_2, q_wpL_eq_1, q_exL_eq_1, q_exL_eq_7, q_exL_eq_11, q_exL_eq_30, q_look_eq_1, q_look_eq_2, q_insT_eq_1, q_insO_eq_1, q_awl_eq_2, q_awl_eq_5, q_awl_eq_6, q_awl_eq_7, q_awl_eq_9, q_AE_thenL_eq_1, q_AE_thenL_eq_2, q_AE_inBlockL_eq_2, q_putK_eq_1, q_vBin_eq_1, q_resV_eq_1, q_binV_eq_1, q_binInt_eq_3, q_cutInt_eq_8, q_vLen_eq_2, q_lenO_eq_1, q_vRow_eq_1, q_vLits_eq_1, q_vLits_eq_2, q_bsK_eq_1, q_freeB_eq_1, q_freeT_eq_1, q_freeT_eq_2, q_freeO_eq_1, q_freeO_eq_2, q_V_noRef_eq_1, q_K_noRef_eq_1, q_K_noRef_eq_3, q_O_noRef_eq_1, q_List_map_cons, q_List_map_nil, q_List_foldl_cons, q_List_foldl_nil, q_List_replicate_succ, q_List_replicate_zero, q_List_set_cons_zero, q_List_set_cons_succ, q_List_length_cons, q_List_length_nil, true_and, if_true, reduceCtorEq, forall_eq_or_imp, forall_eq, or_false, and_self, bne_iff_ne, ne_eq, Bool.and_eq_true, Bool.and_true, Bool.true_and, Bool.or_true, Bool.false_or, List.mem_cons, Nat.reduceAdd, Nat.reduceEqDiff, Nat.reduceLT, Nat.reduceBEq, Nat.zero_add, q_learn_eq_1, not_false_eq_true, q_condK_eq_1, q_condB_eq_2, decide_false, lookT_here, lookT_next, Int.reduceLT, Int.cast_ofNat_Int, lookO_here, List.not_mem_nil, r_all_noRef, uf44b14, uf44r15, uf44b16, uf44b17, uf44b24, uf44b25, uf44r26, uf44b27]
    rw [uf44l13]
    refine awl_loop (fun i : Nat => [(0, .k (.ptr 0 0)), (1, .k (.ptr 1 0)), (11, .k (.own 11)), (12, .int .i64 10), (13, .int .i64 i)])
      (fun i => [(0, .var 65 rowZ), (1, .var 65 ((kindsC (k2 i)).map .c)), (11, .arr 3 1 (some false) (ints asks))]) (fun i => i ≤ 10) (fun i => 10 - i) 0 rfl rfl (Nat.zero_le _) ?_
    intro i hi
    by_cases hlt : i < 10
    · have h10 : i = 0 ∨ i = 1 ∨ i = 2 ∨ i = 3 ∨ i = 4 ∨ i = 5 ∨ i = 6 ∨ i = 7 ∨ i = 8 ∨ i = 9 := by omega
      have c1 : (i : Int) < 10 := by omega
      have c4 : IntKind.i64.wrap ((i : Int) + 1) = (i : Int) + 1 := wrap_in (by omega) (by omega)
      have hla : i < asks.length := by simp [asks]; omega
      have hq : ∀ j (h : j < asks.length), 0 ≤ asks[j] ∧ asks[j] < 22 := by decide
      replace hq := hq i hla
      have h1 := hq.1
      have h2 := hq.2
      have c5 : asks[i].toNat + 1 ≤ 22 := by omega
      have c6 : (i : Int) < asks.length := by simp [asks]; omega
      simp only [c1, c4, c5, c6, h1, h2, ints_at hla, kindsC_len, List.length_map, q_wpLs_eq_1, q_wpLs_eq_2, q_wpL_eq_1, q_exL_eq_1, q_exL_eq_8, q_exL_eq_9, q_exL_eq_11, q_exL_eq_23, q_exL_eq_24, q_look_eq_1, q_look_eq_2, q_insT_eq_1, q_insO_eq_1, q_awl_eq_1, q_awl_eq_2, q_awl_eq_5, q_awl_eq_6, q_awl_eq_7, q_AE_thenL_eq_1, q_AE_inBlockL_eq_1, q_putK_eq_1, q_vBin_eq_1, q_resV_eq_1, q_binV_eq_1, q_binInt_eq_3, q_cutInt_eq_1, q_cutInt_eq_8, q_partV_eq_2, q_loadO_eq_2, q_isA_eq_1, q_vLoad_eq_3, q_vIaddr_eq_2, q_idxO_eq_1, q_vIaddrA_eq_1, q_V_cells_eq_1, q_splice_eq_1, q_isVarO_eq_1, q_stVarK_eq_1, q_storeK_eq_1, q_List_length_cons, q_List_length_nil, q_List_getD_cons_zero, true_and, if_true, and_self, Nat.reduceBEq, Nat.zero_add, Int.toNat_natCast, Nat.le_refl, Int.natCast_nonneg, q_learn_eq_1, q_condK_eq_1, q_condB_eq_1, decide_true, ints_len, List.length_map, lookT_here, lookT_next, Int.cast_ofNat_Int, lookO_here, lookO_next, Nat.mul_one, uf44r3, uf44r4, uf44r5, uf44b6, uf44b7, uf44b8, uf44b9, uf44b10, uf44r11, uf44b12]
      refine Next.intro (i + 1) rfl ?_ (by omega) (by omega)
      rcases h10 with rfl | rfl | rfl | rfl | rfl | rfl | rfl | rfl | rfl | rfl <;> rfl
    · have c1 : ¬ (i : Int) < 10 := by omega
      obtain rfl : i = 10 := by omega
      simp only [c1, kindsC_len, List.length_map, r_ofRow_take (kindsC_len _), q_wpLs_eq_1, q_wpLs_eq_2, q_wpL_eq_1, q_exL_eq_8, q_exL_eq_9, q_exL_eq_11, q_look_eq_1, q_insT_eq_1, q_insO_eq_1, q_awl_eq_2, q_awl_eq_5, q_awl_eq_6, q_awl_eq_9, q_awl_eq_10, q_AE_thenL_eq_1, q_AE_thenL_eq_2, q_AE_inBlockL_eq_2, q_putK_eq_1, q_vBin_eq_1, q_resV_eq_1, q_binV_eq_1, q_binInt_eq_3, q_cutInt_eq_8, q_loadO_eq_1, q_isV_eq_1, q_vLoad_eq_1, q_V_cells_eq_2, q_splice_eq_1, q_stVarK_eq_1, q_storeK_eq_1, q_mapT_eq_1, q_mapT_eq_2, q_mapO_eq_1, q_mapO_eq_2, q_endK_eq_2, q_endL_eq_1, q_endV_eq_1, q_resL_eq_1, q_resL_eq_2, q_resX_eq_2, q_resCell_eq_1, q_one_eq_1, q_V_nrm_eq_1, q_V_nrm_eq_2, q_K_nrm_eq_1, q_K_nrm_eq_3, q_O_nrm_eq_1, q_O_nrm_eq_2, q_C_norm_eq_4, q_C_norm_eq_5, q_List_take_zero, q_List_drop_zero, q_List_nil_append, true_and, and_true, if_true, Nat.reduceLT, Nat.reduceBEq, Nat.zero_add, Nat.le_refl, q_learn_eq_1, q_condK_eq_1, q_condB_eq_2, decide_false, normRows_ints, List.length_map, r_ofRow_take, lookT_here, lookT_next, Int.reduceLT, Int.cast_ofNat_Int, lookO_here, lookO_next, r_map_nrm, uf44r1, uf44b2, uf44b9, uf44b10, uf44r11, uf44b12]
      refine ⟨by decide, ?_, ?_⟩
      · exact List.nodup_nil
      · exact hS
theorem kinds_at {n : Int} (h1 : 0 ≤ n) (h2 : n < 22) : List.take 1 (List.drop n.toNat (kindsRow.map Abs.K.c)) = [.c (.int .i64 (qtype n))] := by
  obtain ⟨m, rfl⟩ : ∃ m : Nat, n = m := ⟨n.toNat, by omega⟩
  have h22 : m = 0 ∨ m = 1 ∨ m = 2 ∨ m = 3 ∨ m = 4 ∨ m = 5 ∨ m = 6 ∨ m = 7 ∨ m = 8 ∨ m = 9 ∨ m = 10 ∨ m = 11 ∨ m = 12 ∨ m = 13 ∨ m = 14 ∨ m = 15 ∨ m = 16 ∨ m = 17 ∨ m = 18 ∨ m = 19 ∨ m = 20 ∨ m = 21 := by omega
  rcases h22 with rfl | rfl | rfl | rfl | rfl | rfl | rfl | rfl | rfl | rfl | rfl | rfl | rfl | rfl | rfl | rfl | rfl | rfl | rfl | rfl | rfl | rfl <;> rfl
theorem kindsRow_len : kindsRow.length = 22 := kindsC_len _
theorem s16 (q : Int) : Spec Try.prog 16 [.int .i64 q] (fun r => r = typeQ q) := by
  refine Spec.of_awlS hf16 okf16 (by simp) fun S hS => ?_
  by_cases h1 : q < 0
  · simp only [h1, q_wpLs_eq_1, q_wpLs_eq_2, q_wpL_eq_1, q_putDL_eq_1, q_AOp_dst_eq_1, q_AOp_dst_eq_10, q_exL_eq_1, q_exL_eq_3, q_exL_eq_11, q_look_eq_1, q_look_eq_2, q_lookO_eq_1, q_insT_eq_1, q_awl_eq_2, q_awl_eq_5, q_awl_eq_6, q_awl_eq_10, q_AE_thenL_eq_1, q_AE_thenL_eq_3, q_initT_eq_1, q_initT_eq_2, q_putK_eq_1, q_vBin_eq_1, q_resV_eq_1, q_binV_eq_1, q_binInt_eq_3, q_cutInt_eq_8, q_vPick_eq_2, q_mapT_eq_1, q_mapT_eq_2, q_mapO_eq_1, q_endK_eq_2, q_endL_eq_1, q_endV_eq_1, q_resL_eq_1, q_resL_eq_2, q_resX_eq_1, q_one_eq_2, q_V_nrm_eq_1, q_V_nrm_eq_5, q_K_nrm_eq_1, q_V_owns_eq_1, q_V_owns_eq_3, q_K_owns_eq_2, q_V_ownsL_eq_1, q_V_ownsL_eq_2, q_V_toNew_eq_1, q_V_toNew_eq_4, q_K_toNew_eq_1, q_V_toNewL_eq_1, q_V_toNewL_eq_2, q_C_norm_eq_4, q_C_norm_eq_5, q_Bool_not_false, true_and, if_true, and_self, List.append_nil, List.nodup_nil, Nat.reduceBEq, Nat.zero_add, q_learn_eq_1, q_guardP_eq_2, q_condK_eq_1, q_condB_eq_1, decide_true, lookT_here, lookT_next, uf16, uf16r3, uf16b4, uf16b5, uf16r6, uf16b7, uf16b8, uf16r9, uf16b10]
    exact fin hS (by rw [typeQ, if_pos (.inl h1)])
  by_cases h2 : q ≥ 22
  · simp only [h1, h2, q_wpLs_eq_1, q_wpLs_eq_2, q_wpL_eq_1, q_AOp_dst_eq_1, q_AOp_dst_eq_10, q_exL_eq_1, q_exL_eq_3, q_exL_eq_11, q_look_eq_1, q_look_eq_2, q_lookO_eq_1, q_insT_eq_1, q_awl_eq_2, q_awl_eq_5, q_awl_eq_6, q_awl_eq_10, q_AE_thenL_eq_1, q_AE_thenL_eq_3, q_initT_eq_1, q_initT_eq_2, q_putK_eq_1, q_vBin_eq_1, q_resV_eq_1, q_binV_eq_1, q_binInt_eq_3, q_cutInt_eq_8, q_cutInt_eq_11, q_vPick_eq_1, q_mapT_eq_1, q_mapT_eq_2, q_mapO_eq_1, q_endK_eq_2, q_endL_eq_1, q_endV_eq_1, q_resL_eq_1, q_resL_eq_2, q_resX_eq_1, q_one_eq_2, q_V_nrm_eq_1, q_K_nrm_eq_1, q_V_owns_eq_1, q_V_owns_eq_3, q_K_owns_eq_2, q_V_ownsL_eq_1, q_V_ownsL_eq_2, q_V_toNew_eq_1, q_V_toNew_eq_4, q_K_toNew_eq_1, q_V_toNewL_eq_1, q_V_toNewL_eq_2, q_C_norm_eq_4, q_C_norm_eq_5, q_Bool_not_false, true_and, if_true, if_false, Bool.false_eq_true, and_self, List.append_nil, List.nodup_nil, Nat.reduceBEq, Nat.zero_add, q_learn_eq_1, q_guardP_eq_2, q_condK_eq_1, q_condB_eq_1, q_condB_eq_2, q_exK_eq_1, decide_true, decide_false, lookT_here, lookT_next, uf16, uf16r3, uf16b4, uf16b5, uf16r6, uf16b7, uf16b8, uf16r9, uf16b10]
    exact fin hS (by rw [typeQ, if_pos (.inr h2)])
  rw [typeQ, if_neg (by omega)] at hS
  simp only [h1, h2, q_wpLs_eq_1, q_wpLs_eq_2, q_wpL_eq_1, q_AOp_dst_eq_1, q_AOp_dst_eq_10, q_exL_eq_1, q_exL_eq_3, q_exL_eq_11, q_exL_eq_28, q_look_eq_1, q_look_eq_2, q_insT_eq_1, q_awl_eq_1, q_awl_eq_2, q_awl_eq_5, q_awl_eq_6, q_AE_thenL_eq_1, q_initT_eq_1, q_initT_eq_2, q_putK_eq_1, q_vBin_eq_1, q_resV_eq_1, q_binV_eq_1, q_binInt_eq_3, q_cutInt_eq_8, q_cutInt_eq_11, q_vPick_eq_1, q_Bool_not_false, q_List_map_nil, true_and, if_true, if_false, Bool.false_eq_true, Nat.reduceBEq, Nat.zero_add, q_learn_eq_1, q_guardP_eq_2, q_condK_eq_1, q_condB_eq_2, q_exK_eq_1, decide_false, lookT_here, lookT_next, uf16, uf16r1, uf16b2, uf16b5, uf16r6, uf16b7, uf16b8, uf16r9, uf16b10]
  refine call_r s44 ?_
  have e := kinds_at (n := q) (by omega) (by omega)
  have h3 : 0 ≤ q := by omega
  have h4 : q < 22 := by omega
  rw [← List.map_drop, ← List.map_take] at e
  simp only [h3, h4, kindsRow_len, e, q_wpLs_eq_1, q_wpLs_eq_2, q_wpL_eq_1, q_exL_eq_1, q_exL_eq_26, q_look_eq_1, q_look_eq_2, q_lookO_eq_1, q_insT_eq_1, q_awl_eq_10, q_putK_eq_1, q_vAidx_eq_1, q_ofRow_eq_1, q_pureRow_eq_1, q_pureRow_eq_2, q_mapT_eq_1, q_mapT_eq_2, q_mapO_eq_1, q_endK_eq_2, q_endL_eq_1, q_endV_eq_1, q_resL_eq_1, q_resL_eq_2, q_resX_eq_1, q_one_eq_2, q_V_nrm_eq_1, q_V_nrm_eq_2, q_K_nrm_eq_1, q_V_owns_eq_1, q_V_owns_eq_3, q_K_owns_eq_2, q_V_ownsL_eq_1, q_V_ownsL_eq_2, q_V_toNew_eq_1, q_V_toNew_eq_4, q_K_toNew_eq_1, q_V_toNewL_eq_1, q_V_toNewL_eq_2, q_C_norm_eq_4, q_C_norm_eq_5, q_regN_eq_2, q_V_reg_eq_4, q_freesL_eq_1, q_addsL_eq_1, q_regK_eq_1, q_retK_eq_2, q_Option_map_some, q_List_length_nil, true_and, if_false, Bool.false_eq_true, and_self, List.append_nil, List.nodup_nil, Nat.reduceAdd, Nat.reduceMul, Nat.reduceBEq, lookT_here, lookT_next, Int.cast_ofNat_Int, Nat.mul_one]
  exact fin hS rfl
end Go.Abs


set_option maxRecDepth 100000
set_option maxHeartbeats 4000000
namespace Go.Abs
open Go.Proofs
abbrev orV (o : Order) : List K := (encOrder o).map .c
theorem s15 (o : Order) : Spec Try.prog 15 [.agg (encOrder o)] (fun r => r = .bool (fewO o)) := by
  refine Spec.of_len hf15 fun hlen => ?_
  have hl := (len_rules (o := o) List.mem_cons_self hlen).2
  clear hlen
  refine Spec.of_awlS hf15 okf15 (by simp) fun S hS => ?_
  by_cases h1 : (o.choices.length : Int) > 60
  · simp only [h1, q_wpLs_eq_1, q_wpLs_eq_2, q_wpL_eq_1, q_putDL_eq_1, q_AOp_dst_eq_8, q_AOp_dst_eq_10, q_AOp_dst_eq_20, q_AOp_dst_eq_27, q_exL_eq_1, q_exL_eq_3, q_exL_eq_5, q_exL_eq_8, q_exL_eq_11, q_exL_eq_21, q_exL_eq_30, q_look_eq_1, q_look_eq_2, q_insT_eq_1, q_insO_eq_1, q_awl_eq_2, q_awl_eq_5, q_awl_eq_6, q_awl_eq_10, q_AE_thenL_eq_1, q_AE_thenL_eq_3, q_initT_eq_1, q_initT_eq_2, q_putK_eq_1, q_vBin_eq_1, q_resV_eq_1, q_binV_eq_1, q_binInt_eq_3, q_cutInt_eq_10, q_vFaddr_eq_1, q_loadO_eq_1, q_isV_eq_1, q_vLoad_eq_1, q_vPick_eq_2, q_isVarO_eq_1, q_boxK_eq_1, q_mapT_eq_1, q_mapT_eq_2, q_mapO_eq_1, q_mapO_eq_2, q_freeB_eq_1, q_freeT_eq_1, q_freeT_eq_2, q_freeO_eq_1, q_V_noRef_eq_2, q_endK_eq_2, q_endL_eq_1, q_endV_eq_1, q_resL_eq_1, q_resL_eq_2, q_resX_eq_1, q_one_eq_1, q_V_nrm_eq_1, q_V_nrm_eq_2, q_V_nrm_eq_5, q_K_nrm_eq_1, q_K_nrm_eq_3, q_O_nrm_eq_1, q_V_owns_eq_1, q_K_owns_eq_2, q_V_toNew_eq_1, q_K_toNew_eq_1, q_C_norm_eq_4, q_C_norm_eq_5, q_Bool_not_false, true_and, if_true, and_self, Bool.and_true, Bool.or_true, List.nodup_nil, Nat.reduceAdd, Nat.reduceLeDiff, Nat.reduceBEq, Nat.zero_add, q_learn_eq_1, q_guardP_eq_2, q_condK_eq_1, q_condB_eq_1, decide_true, r_vLen_lst, norm_lst, normRows_Ch, encOrder_norm, List.length_map, encOrder_len, lookT_here, lookT_next, lookO_here, f_or2, r_map_nrm, uf15, uf15r20, uf15b21, uf15b22, uf15r23, uf15b24, uf15b25, uf15r26, uf15b27]
    exact fin hS (by rw [fewO, if_pos (.inl (by omega))])
  by_cases h2 : (o.rules.length : Int) > 60
  · simp only [h1, h2, q_wpLs_eq_1, q_wpLs_eq_2, q_wpL_eq_1, q_AOp_dst_eq_8, q_AOp_dst_eq_10, q_AOp_dst_eq_20, q_AOp_dst_eq_27, q_exL_eq_1, q_exL_eq_3, q_exL_eq_5, q_exL_eq_8, q_exL_eq_11, q_exL_eq_21, q_exL_eq_30, q_look_eq_1, q_look_eq_2, q_insT_eq_1, q_insO_eq_1, q_awl_eq_2, q_awl_eq_5, q_awl_eq_6, q_awl_eq_10, q_AE_thenL_eq_1, q_AE_thenL_eq_3, q_initT_eq_1, q_initT_eq_2, q_putK_eq_1, q_vBin_eq_1, q_resV_eq_1, q_binV_eq_1, q_binInt_eq_3, q_cutInt_eq_10, q_vFaddr_eq_1, q_loadO_eq_1, q_isV_eq_1, q_vLoad_eq_1, q_vPick_eq_1, q_isVarO_eq_1, q_boxK_eq_1, q_mapT_eq_1, q_mapT_eq_2, q_mapO_eq_1, q_mapO_eq_2, q_freeB_eq_1, q_freeT_eq_1, q_freeT_eq_2, q_freeO_eq_1, q_V_noRef_eq_2, q_endK_eq_2, q_endL_eq_1, q_endV_eq_1, q_resL_eq_1, q_resL_eq_2, q_resX_eq_1, q_one_eq_1, q_V_nrm_eq_1, q_V_nrm_eq_2, q_K_nrm_eq_1, q_K_nrm_eq_3, q_O_nrm_eq_1, q_V_owns_eq_1, q_K_owns_eq_2, q_V_toNew_eq_1, q_K_toNew_eq_1, q_C_norm_eq_4, q_C_norm_eq_5, q_Bool_not_false, true_and, if_true, if_false, Bool.false_eq_true, and_self, Bool.and_true, Bool.or_true, List.nodup_nil, Nat.reduceAdd, Nat.reduceLeDiff, Nat.reduceBEq, Nat.zero_add, Nat.le_refl, q_learn_eq_1, q_guardP_eq_2, q_condK_eq_1, q_condB_eq_1, q_condB_eq_2, q_exK_eq_1, decide_true, decide_false, r_vLen_lst, norm_lst, normRows_Ch, normRows_R, encOrder_norm, List.length_map, encOrder_len, lookT_here, lookT_next, lookO_here, f_or2, f_or3, r_map_nrm, uf15, uf15r20, uf15b21, uf15b22, uf15r23, uf15b24, uf15b25, uf15r26, uf15b27]
    exact fin hS (by rw [fewO, if_pos (.inr (by omega))])
  rw [fewO, if_neg (by omega)] at hS
  simp only [h1, h2, q_wpLs_eq_1, q_wpLs_eq_2, q_wpL_eq_1, q_AOp_dst_eq_8, q_AOp_dst_eq_10, q_AOp_dst_eq_20, q_AOp_dst_eq_27, q_exL_eq_1, q_exL_eq_3, q_exL_eq_5, q_exL_eq_8, q_exL_eq_11, q_exL_eq_21, q_exL_eq_30, q_look_eq_1, q_look_eq_2, q_insT_eq_1, q_insO_eq_1, q_awl_eq_1, q_awl_eq_2, q_awl_eq_5, q_awl_eq_6, q_awl_eq_7, q_AE_thenL_eq_1, q_initT_eq_1, q_initT_eq_2, q_putK_eq_1, q_vBin_eq_1, q_resV_eq_1, q_binV_eq_1, q_binInt_eq_3, q_cutInt_eq_10, q_vFaddr_eq_1, q_loadO_eq_1, q_isV_eq_1, q_vLoad_eq_1, q_vPick_eq_1, q_isVarO_eq_1, q_boxK_eq_1, q_freeB_eq_1, q_freeT_eq_1, q_freeT_eq_2, q_freeO_eq_1, q_V_noRef_eq_2, q_Bool_not_false, true_and, if_true, if_false, Bool.false_eq_true, Bool.and_true, Bool.or_true, Nat.reduceAdd, Nat.reduceLeDiff, Nat.reduceBEq, Nat.zero_add, Nat.le_refl, q_learn_eq_1, q_guardP_eq_2, q_condK_eq_1, q_condB_eq_2, q_exK_eq_1, decide_false, r_vLen_lst, List.length_map, encOrder_len, lookT_here, lookT_next, lookO_here, f_or2, f_or3, uf15, uf15b16, uf15r17, uf15b18, uf15b19, uf15b22, uf15r23, uf15b24, uf15b25, uf15r26, uf15b27]
  rw [uf15l15]
  refine awl_loop (fun i : Nat => [(1, .k (.ptr 1 0)), (3, .int .i64 i)]) (fun _ => [(1, .var 25 (orV o))])
    (fun i => i ≤ o.rules.length ∧ fewR (o.rules.drop i) = fewR o.rules) (fun i => o.rules.length - i) 0 rfl rfl ⟨Nat.zero_le _, rfl⟩ ?_
  rintro i ⟨hi, hj⟩
  by_cases hlt : i < o.rules.length
  · have c1 : (i : Int) < o.rules.length := by omega
    have c4 : IntKind.i64.wrap ((i : Int) + 1) = (i : Int) + 1 := wrap_in (by omega) (by omega)
    rw [fewR_drop hlt] at hj
    simp only [c1, c4, map_at hlt, q_wpLs_eq_1, q_wpLs_eq_2, q_wpL_eq_1, q_exL_eq_1, q_exL_eq_8, q_exL_eq_11, q_exL_eq_21, q_exL_eq_23, q_exL_eq_28, q_exL_eq_30, q_look_eq_1, q_insT_eq_1, q_awl_eq_1, q_awl_eq_2, q_awl_eq_5, q_awl_eq_6, q_awl_eq_7, q_AE_thenL_eq_1, q_putK_eq_1, q_vBin_eq_1, q_resV_eq_1, q_binV_eq_1, q_binInt_eq_3, q_cutInt_eq_8, q_vFaddr_eq_1, q_vFaddr_eq_3, q_partV_eq_1, q_loadO_eq_1, q_isV_eq_1, q_vLoad_eq_1, q_vLoad_eq_2, q_isVarO_eq_1, q_List_map_cons, q_List_map_nil, true_and, if_true, if_false, and_self, Nat.reduceAdd, Nat.reduceEqDiff, Nat.reduceBEq, Nat.succ_ne_self, Nat.zero_add, Int.toNat_natCast, Nat.le_refl, Int.natCast_nonneg, q_learn_eq_1, q_condK_eq_1, q_condB_eq_1, decide_true, r_vLen_lst, r_vIaddr_lst, List.length_map, encOrder_len, lookT_here, lookT_next, lookO_here, g_rule1, f_or3, uf15r3, uf15r7, uf15b8, uf15b9, uf15b10, uf15b11, uf15r12, uf15b13, uf15b14]
    refine call_s (s30 o.rules[i].term) ?_
    cases h : few o.rules[i].term
    · rw [if_pos h] at hj
      simp only [h, q_wpLs_eq_1, q_wpLs_eq_2, q_wpL_eq_1, q_exL_eq_1, q_exL_eq_15, q_look_eq_1, q_look_eq_2, q_insT_eq_1, q_awl_eq_2, q_awl_eq_5, q_awl_eq_6, q_awl_eq_10, q_AE_thenL_eq_1, q_AE_thenL_eq_3, q_AE_inBlockL_eq_3, q_putK_eq_1, q_vUn_eq_1, q_unV_eq_2, q_mapC_eq_1, q_mapT_eq_1, q_mapT_eq_2, q_mapO_eq_1, q_mapO_eq_2, q_endK_eq_2, q_endL_eq_1, q_endV_eq_1, q_resL_eq_1, q_resL_eq_2, q_resX_eq_1, q_one_eq_1, q_V_nrm_eq_1, q_V_nrm_eq_2, q_K_nrm_eq_1, q_K_nrm_eq_2, q_K_nrm_eq_3, q_O_nrm_eq_1, q_V_owns_eq_1, q_K_owns_eq_2, q_V_toNew_eq_1, q_K_toNew_eq_1, q_C_norm_eq_4, q_C_norm_eq_5, q_Bool_not_false, true_and, and_self, List.nodup_nil, q_learn_eq_1, q_condK_eq_1, q_condB_eq_1, norm_lst, normRows_R, encT_norm, encOrder_norm, lookT_here, r_map_nrm, uf15r4, uf15b5, uf15b6]
      exact fin hS (by rw [← hj])
    · rw [if_neg (by simp [h])] at hj
      simp only [h, c4, q_wpLs_eq_1, q_wpLs_eq_2, q_wpL_eq_1, q_exL_eq_1, q_exL_eq_11, q_exL_eq_15, q_look_eq_1, q_look_eq_2, q_insT_eq_1, q_awl_eq_1, q_awl_eq_2, q_awl_eq_6, q_AE_thenL_eq_1, q_AE_inBlockL_eq_1, q_putK_eq_1, q_vBin_eq_1, q_resV_eq_1, q_binV_eq_1, q_binInt_eq_3, q_cutInt_eq_1, q_vUn_eq_1, q_unV_eq_2, q_mapC_eq_1, q_Bool_not_true, true_and, if_true, Nat.reduceBEq, q_learn_eq_1, q_condK_eq_1, q_condB_eq_2, lookT_here, lookT_next, uf15b6]
      exact Next.intro (i + 1) rfl rfl ⟨by omega, hj⟩ (by omega)
  · have c1 : ¬ (i : Int) < o.rules.length := by omega
    simp only [c1, q_wpLs_eq_1, q_wpLs_eq_2, q_wpL_eq_1, q_exL_eq_1, q_exL_eq_8, q_exL_eq_11, q_exL_eq_21, q_exL_eq_30, q_look_eq_1, q_look_eq_2, q_insT_eq_1, q_awl_eq_2, q_awl_eq_5, q_awl_eq_6, q_awl_eq_9, q_awl_eq_10, q_AE_thenL_eq_1, q_AE_thenL_eq_2, q_AE_inBlockL_eq_2, q_putK_eq_1, q_vBin_eq_1, q_resV_eq_1, q_binV_eq_1, q_binInt_eq_3, q_cutInt_eq_8, q_vFaddr_eq_1, q_loadO_eq_1, q_isV_eq_1, q_vLoad_eq_1, q_isVarO_eq_1, q_mapT_eq_1, q_mapT_eq_2, q_mapO_eq_1, q_mapO_eq_2, q_endK_eq_2, q_endL_eq_1, q_endV_eq_1, q_resL_eq_1, q_resL_eq_2, q_resX_eq_1, q_one_eq_1, q_V_nrm_eq_1, q_K_nrm_eq_1, q_K_nrm_eq_3, q_O_nrm_eq_1, q_V_owns_eq_1, q_K_owns_eq_2, q_V_toNew_eq_1, q_K_toNew_eq_1, q_C_norm_eq_4, q_C_norm_eq_5, true_and, if_true, and_self, List.nodup_nil, Nat.reduceAdd, Nat.reduceBEq, Nat.zero_add, Nat.le_refl, q_learn_eq_1, q_condK_eq_1, q_condB_eq_2, decide_false, r_vLen_lst, norm_lst, normRows_R, encOrder_norm, List.length_map, encOrder_len, lookT_here, lookT_next, lookO_here, f_or3, r_map_nrm, uf15r1, uf15b2, uf15b11, uf15r12, uf15b13, uf15b14]
    rw [List.drop_eq_nil_of_le (by omega), fewR] at hj
    exact fin hS (by rw [← hj])
theorem rls_range : ∀ (l : List Rule) (last : Int), rls l last = true → ∀ r ∈ l, last < r.ask ∧ r.ask < 22
  | [], _, _, r, h => by simp at h
  | a :: l, last, h, r, hr => by
    simp only [rls] at h
    split at h
    · simp at h
    · rename_i hc
      have hc : last < a.ask ∧ a.ask < 22 := by simpa using hc
      rcases List.mem_cons.1 hr with rfl | hr
      · exact hc
      · have := rls_range l a.ask h r hr; omega
theorem s20 (o : Order) : Spec Try.prog 20 [.agg (encOrder o)] (fun r => r = .int .i64 (checkO o)) := by
  refine Spec.of_len hf20 fun hlen => ?_
  have hl := len_rules (o := o) List.mem_cons_self hlen
  clear hlen
  obtain ⟨hl1, hl2⟩ := hl
  refine Spec.of_awlS hf20 okf20 (by simp) fun S hS => ?_
  simp only [q_wpLs_eq_1, q_wpLs_eq_2, q_wpL_eq_1, q_exL_eq_1, q_exL_eq_5, q_exL_eq_8, q_exL_eq_21, q_exL_eq_30, q_look_eq_1, q_look_eq_2, q_insT_eq_1, q_insO_eq_1, q_awl_eq_2, q_awl_eq_5, q_awl_eq_7, q_AE_thenL_eq_1, q_initT_eq_1, q_initT_eq_2, q_putK_eq_1, q_vFaddr_eq_1, q_loadO_eq_1, q_isV_eq_1, q_vLoad_eq_1, q_isVarO_eq_1, q_boxK_eq_1, q_freeB_eq_1, q_freeT_eq_1, q_freeT_eq_2, q_freeO_eq_1, q_V_noRef_eq_2, true_and, Bool.and_true, Bool.or_true, Int.reduceNeg, Nat.reduceAdd, Nat.reduceLeDiff, Nat.reduceBEq, Nat.zero_add, r_vLen_lst, List.length_map, encOrder_len, lookT_here, lookT_next, lookO_here, f_or2, uf20, uf20b72, uf20r73, uf20b74, uf20b75, uf20r76, uf20b77, uf20r78, uf20b79]
  rw [uf20l71]
  refine awl_loop (fun x : Nat × Int => [(1, .k (.ptr 1 0)), (3, .int .i64 x.2), (14, lst 3 (o.choices.map encChoice)), (15, .int .i64 o.choices.length), (16, .int .i64 x.1)]) (fun _ => [(1, .var 25 (orV o))])
    (fun x => x.1 ≤ o.choices.length ∧ chs (o.choices.drop x.1) x.2 = chs o.choices (-1)) (fun x => o.choices.length - x.1) (0, -1) rfl rfl ⟨Nat.zero_le _, rfl⟩ ?_
  rintro ⟨i, last⟩ ⟨hi, hj⟩
  simp only [] at hi hj
  by_cases hlt : i < o.choices.length
  · have c1 : (i : Int) < o.choices.length := by omega
    have c4 : IntKind.i64.wrap ((i : Int) + 1) = (i : Int) + 1 := wrap_in (by omega) (by omega)
    rw [chs_drop hlt] at hj
    simp only [c1, c4, map_at hlt, q_wpLs_eq_1, q_wpLs_eq_2, q_wpL_eq_1, q_exL_eq_1, q_exL_eq_4, q_exL_eq_8, q_exL_eq_9, q_exL_eq_11, q_exL_eq_21, q_exL_eq_23, q_exL_eq_28, q_look_eq_1, q_insT_eq_1, q_insO_eq_1, q_awl_eq_1, q_awl_eq_2, q_awl_eq_5, q_awl_eq_6, q_awl_eq_7, q_AE_thenL_eq_1, q_putK_eq_1, q_vBin_eq_1, q_resV_eq_1, q_binV_eq_1, q_binInt_eq_3, q_cutInt_eq_8, q_vFaddr_eq_1, q_partV_eq_1, q_loadO_eq_1, q_isV_eq_1, q_vLoad_eq_1, q_vLoad_eq_2, q_V_cells_eq_2, q_splice_eq_1, q_isVarO_eq_1, q_stVarK_eq_1, q_storeK_eq_1, q_freeB_eq_1, q_freeT_eq_1, q_freeT_eq_2, q_freeO_eq_1, q_freeO_eq_2, q_V_noRef_eq_1, q_V_noRef_eq_2, q_K_noRef_eq_1, q_K_noRef_eq_3, q_K_noRef_eq_5, q_O_noRef_eq_1, q_List_map_cons, q_List_map_nil, q_List_take_zero, q_List_drop_succ_cons, q_List_drop_zero, q_List_nil_append, q_List_length_cons, q_List_length_nil, true_and, if_true, and_self, bne_iff_ne, ne_eq, Bool.and_true, Bool.true_and, Bool.or_true, Bool.false_or, Int.reduceNeg, List.append_nil, Nat.reduceAdd, Nat.reduceEqDiff, Nat.reduceLeDiff, Nat.reduceBEq, Nat.zero_add, Nat.add_zero, Int.toNat_natCast, Nat.le_refl, Int.natCast_nonneg, q_learn_eq_1, not_false_eq_true, q_condK_eq_1, q_condB_eq_1, decide_true, r_vIaddr_lst, List.length_map, encChoice_len, lookT_here, lookT_next, lookO_here, f_ch0, r_all_noRef, uf20r55, uf20r56, uf20r60, uf20b61, uf20b62, uf20r63, uf20b64, uf20b65, uf20b66, uf20b67, uf20b68, uf20r69, uf20b70]
    refine call_s (s45 last o.choices[i].ask) ?_
    have hbad : (¬ (last < o.choices[i].ask ∧ o.choices[i].ask < 22) ∨ o.choices[i].by_ < 0 ∨ o.choices[i].by_ ≥ 5) → S (.k (.c (.int .i64 1))) := by
      intro h
      rw [if_pos h] at hj
      exact fin hS (by rw [checkO, if_pos hj.symm])
    by_cases h1 : last < o.choices[i].ask ∧ o.choices[i].ask < 22
    · simp only [h1, c4, and_self, q_wpLs_eq_1, q_wpLs_eq_2, q_wpL_eq_1, q_putDL_eq_1, q_AOp_dst_eq_8, q_AOp_dst_eq_10, q_AOp_dst_eq_20, q_exL_eq_1, q_exL_eq_3, q_exL_eq_8, q_exL_eq_11, q_exL_eq_15, q_exL_eq_21, q_look_eq_1, q_look_eq_2, q_insT_eq_1, q_awl_eq_1, q_awl_eq_2, q_awl_eq_5, q_awl_eq_6, q_awl_eq_10, q_AE_thenL_eq_1, q_AE_thenL_eq_3, q_AE_inBlockL_eq_1, q_AE_inBlockL_eq_3, q_putK_eq_1, q_vBin_eq_1, q_resV_eq_1, q_binV_eq_1, q_binInt_eq_3, q_cutInt_eq_1, q_cutInt_eq_8, q_cutInt_eq_11, q_vUn_eq_1, q_unV_eq_2, q_mapC_eq_1, q_vFaddr_eq_1, q_loadO_eq_1, q_isV_eq_1, q_vLoad_eq_1, q_vPick_eq_1, q_vPick_eq_2, q_isVarO_eq_1, q_mapT_eq_1, q_mapT_eq_2, q_mapO_eq_1, q_mapO_eq_2, q_endK_eq_2, q_endL_eq_1, q_endV_eq_1, q_resL_eq_1, q_resL_eq_2, q_resX_eq_1, q_one_eq_1, q_V_nrm_eq_1, q_V_nrm_eq_2, q_V_nrm_eq_5, q_K_nrm_eq_1, q_K_nrm_eq_2, q_K_nrm_eq_3, q_O_nrm_eq_1, q_V_owns_eq_1, q_K_owns_eq_2, q_V_toNew_eq_1, q_K_toNew_eq_1, q_C_norm_eq_4, q_C_norm_eq_5, q_Bool_not_true, q_Bool_not_false, q_List_map_cons, q_List_map_nil, q_List_drop_zero, true_and, if_true, if_false, Bool.false_eq_true, and_self, Int.reduceNeg, List.nodup_nil, Nat.reduceAdd, Nat.reduceLeDiff, Nat.reduceBEq, Nat.zero_add, Nat.add_zero, q_learn_eq_1, q_guardP_eq_2, q_condK_eq_1, q_condB_eq_1, q_condB_eq_2, q_exK_eq_1, condB_decide, decide_true, norm_lst, normRows_Ch, encChoice_norm, encOrder_norm, List.length_map, encChoice_len, lookT_here, lookT_next, lookO_here, f_ch0, f_ch1, r_map_nrm, uf20r57, uf20b58, uf20b59]
      refine ⟨fun h => hbad (.inr (.inl h)), fun h => ⟨fun h2 => hbad (.inr (.inr h2)), fun h2 => ?_⟩⟩
      rw [if_neg (by omega)] at hj
      exact Next.intro (i + 1, o.choices[i].ask) rfl rfl ⟨by simp only []; omega, hj⟩ (by simp only []; omega)
    · simp only [h1, c4, q_wpLs_eq_1, q_wpLs_eq_2, q_wpL_eq_1, q_putDL_eq_1, q_AOp_dst_eq_8, q_AOp_dst_eq_10, q_AOp_dst_eq_20, q_exL_eq_1, q_exL_eq_3, q_exL_eq_15, q_look_eq_1, q_look_eq_2, q_insT_eq_1, q_awl_eq_2, q_awl_eq_5, q_awl_eq_6, q_awl_eq_10, q_AE_thenL_eq_1, q_AE_thenL_eq_3, q_AE_inBlockL_eq_3, q_putK_eq_1, q_vUn_eq_1, q_unV_eq_2, q_mapC_eq_1, q_vPick_eq_2, q_mapT_eq_1, q_mapT_eq_2, q_mapO_eq_1, q_mapO_eq_2, q_endK_eq_2, q_endL_eq_1, q_endV_eq_1, q_resL_eq_1, q_resL_eq_2, q_resX_eq_1, q_one_eq_1, q_V_nrm_eq_1, q_V_nrm_eq_2, q_V_nrm_eq_5, q_K_nrm_eq_1, q_K_nrm_eq_2, q_K_nrm_eq_3, q_O_nrm_eq_1, q_V_owns_eq_1, q_K_owns_eq_2, q_V_toNew_eq_1, q_K_toNew_eq_1, q_C_norm_eq_4, q_C_norm_eq_5, q_Bool_not_false, q_List_map_cons, q_List_map_nil, true_and, and_self, Int.reduceNeg, List.nodup_nil, Nat.reduceBEq, q_learn_eq_1, q_guardP_eq_2, q_condK_eq_1, q_condB_eq_1, decide_false, norm_lst, normRows_Ch, encChoice_norm, encOrder_norm, lookT_here, lookT_next, r_map_nrm, uf20r57, uf20b58, uf20b59]
      exact hbad (.inl h1)
  · have c1 : ¬ (i : Int) < o.choices.length := by omega
    rw [List.drop_eq_nil_of_le (by omega), chs] at hj
    rw [checkO, if_neg (by rw [← hj]; simp)] at hS
    clear hj hlt hi
    simp only [c1, q_wpLs_eq_1, q_wpLs_eq_2, q_wpL_eq_1, q_exL_eq_1, q_exL_eq_8, q_exL_eq_11, q_exL_eq_21, q_exL_eq_30, q_look_eq_1, q_look_eq_2, q_insT_eq_1, q_awl_eq_2, q_awl_eq_5, q_awl_eq_6, q_awl_eq_7, q_awl_eq_9, q_AE_thenL_eq_1, q_AE_thenL_eq_2, q_AE_inBlockL_eq_2, q_putK_eq_1, q_vBin_eq_1, q_resV_eq_1, q_binV_eq_1, q_binInt_eq_3, q_cutInt_eq_8, q_vFaddr_eq_1, q_loadO_eq_1, q_isV_eq_1, q_vLoad_eq_1, q_isVarO_eq_1, true_and, if_true, Int.reduceNeg, Nat.reduceAdd, Nat.reduceBEq, Nat.zero_add, Nat.le_refl, q_learn_eq_1, q_condK_eq_1, q_condB_eq_2, decide_false, r_vLen_lst, List.length_map, encOrder_len, lookT_here, lookT_next, lookO_here, f_or3, uf20b49, uf20r50, uf20b51, uf20b52, uf20r53, uf20b54, uf20b67, uf20b68, uf20r69, uf20b70]
    rw [uf20l48]
    refine awl_loop (fun x : Nat × Int => [(1, .k (.ptr 1 0)), (3, .int .i64 x.2), (39, lst 4 (o.rules.map encRule)), (40, .int .i64 o.rules.length), (41, .int .i64 x.1)]) (fun _ => [(1, .var 25 (orV o))])
      (fun x => x.1 ≤ o.rules.length ∧ rls (o.rules.drop x.1) x.2 = rls o.rules (-1)) (fun x => o.rules.length - x.1) (0, -1) rfl rfl ⟨Nat.zero_le _, rfl⟩ ?_
    rintro ⟨i, last⟩ ⟨hi, hj⟩
    simp only [] at hi hj
    by_cases hlt : i < o.rules.length
    · have c1 : (i : Int) < o.rules.length := by omega
      have c4 : IntKind.i64.wrap ((i : Int) + 1) = (i : Int) + 1 := wrap_in (by omega) (by omega)
      rw [rls_drop hlt] at hj
      simp only [c1, c4, map_at hlt, q_wpLs_eq_1, q_wpLs_eq_2, q_wpL_eq_1, q_exL_eq_1, q_exL_eq_4, q_exL_eq_8, q_exL_eq_9, q_exL_eq_11, q_exL_eq_21, q_exL_eq_23, q_exL_eq_28, q_look_eq_1, q_insT_eq_1, q_insO_eq_1, q_awl_eq_1, q_awl_eq_2, q_awl_eq_5, q_awl_eq_6, q_awl_eq_7, q_AE_thenL_eq_1, q_putK_eq_1, q_vBin_eq_1, q_resV_eq_1, q_binV_eq_1, q_binInt_eq_3, q_cutInt_eq_8, q_vFaddr_eq_1, q_partV_eq_1, q_loadO_eq_1, q_isV_eq_1, q_vLoad_eq_1, q_vLoad_eq_2, q_V_cells_eq_2, q_splice_eq_1, q_isVarO_eq_1, q_stVarK_eq_1, q_storeK_eq_1, q_freeB_eq_1, q_freeT_eq_1, q_freeT_eq_2, q_freeO_eq_1, q_freeO_eq_2, q_V_noRef_eq_1, q_V_noRef_eq_2, q_K_noRef_eq_1, q_K_noRef_eq_3, q_K_noRef_eq_5, q_O_noRef_eq_1, q_List_map_cons, q_List_map_nil, q_List_take_zero, q_List_drop_succ_cons, q_List_drop_zero, q_List_nil_append, q_List_length_cons, q_List_length_nil, true_and, if_true, and_self, bne_iff_ne, ne_eq, Bool.and_true, Bool.true_and, Bool.or_true, Bool.false_or, Int.reduceNeg, List.append_nil, Nat.reduceAdd, Nat.reduceEqDiff, Nat.reduceLeDiff, Nat.reduceBEq, Nat.zero_add, Nat.add_zero, Int.toNat_natCast, Nat.le_refl, Int.natCast_nonneg, q_learn_eq_1, not_false_eq_true, q_condK_eq_1, q_condB_eq_1, decide_true, r_vIaddr_lst, List.length_map, encRule_len, lookT_here, lookT_next, lookO_here, f_rule0, r_all_noRef, uf20r32, uf20r33, uf20r37, uf20b38, uf20b39, uf20r40, uf20b41, uf20b42, uf20b43, uf20b44, uf20b45, uf20r46, uf20b47]
      refine call_s (s45 last o.rules[i].ask) ?_
      by_cases h1 : last < o.rules[i].ask ∧ o.rules[i].ask < 22
      · rw [if_neg (by omega)] at hj
        simp only [h1, c4, and_self, q_wpLs_eq_1, q_wpLs_eq_2, q_wpL_eq_1, q_exL_eq_1, q_exL_eq_8, q_exL_eq_11, q_exL_eq_15, q_exL_eq_21, q_look_eq_1, q_look_eq_2, q_insT_eq_1, q_awl_eq_1, q_awl_eq_2, q_awl_eq_6, q_AE_thenL_eq_1, q_AE_inBlockL_eq_1, q_putK_eq_1, q_vBin_eq_1, q_resV_eq_1, q_binV_eq_1, q_binInt_eq_3, q_cutInt_eq_1, q_vUn_eq_1, q_unV_eq_2, q_mapC_eq_1, q_vFaddr_eq_1, q_loadO_eq_1, q_isV_eq_1, q_vLoad_eq_1, q_isVarO_eq_1, q_Bool_not_true, q_List_drop_zero, true_and, if_true, and_self, Int.reduceNeg, Nat.reduceLeDiff, Nat.reduceBEq, Nat.zero_add, Nat.add_zero, q_learn_eq_1, q_condK_eq_1, q_condB_eq_2, decide_true, List.length_map, encRule_len, lookT_here, lookT_next, lookO_here, f_rule0, uf20b36]
        exact Next.intro (i + 1, o.rules[i].ask) rfl rfl ⟨by simp only []; omega, hj⟩ (by simp only []; omega)
      · rw [if_pos h1] at hj
        simp only [h1, c4, q_wpLs_eq_1, q_wpLs_eq_2, q_wpL_eq_1, q_exL_eq_1, q_exL_eq_15, q_look_eq_1, q_look_eq_2, q_insT_eq_1, q_awl_eq_2, q_awl_eq_5, q_awl_eq_6, q_awl_eq_10, q_AE_thenL_eq_1, q_AE_thenL_eq_3, q_AE_inBlockL_eq_3, q_putK_eq_1, q_vUn_eq_1, q_unV_eq_2, q_mapC_eq_1, q_mapT_eq_1, q_mapT_eq_2, q_mapO_eq_1, q_mapO_eq_2, q_endK_eq_2, q_endL_eq_1, q_endV_eq_1, q_resL_eq_1, q_resL_eq_2, q_resX_eq_1, q_one_eq_1, q_V_nrm_eq_1, q_V_nrm_eq_2, q_K_nrm_eq_1, q_K_nrm_eq_2, q_K_nrm_eq_3, q_O_nrm_eq_1, q_V_owns_eq_1, q_K_owns_eq_2, q_V_toNew_eq_1, q_K_toNew_eq_1, q_C_norm_eq_1, q_C_norm_eq_4, q_C_norm_eq_5, q_C_normRows_eq_1, q_Bool_not_false, q_List_map_cons, q_List_map_nil, q_List_isEmpty_nil, true_and, if_true, and_self, Int.reduceNeg, List.nodup_nil, q_learn_eq_1, q_condK_eq_1, q_condB_eq_1, decide_false, norm_lst, normRows_R, encRule_norm, encOrder_norm, lookT_here, r_map_nrm, uf20r34, uf20b35, uf20b36]
        exact fin hS (by rw [if_pos hj.symm])
    · have c1 : ¬ (i : Int) < o.rules.length := by omega
      rw [List.drop_eq_nil_of_le (by omega), rls] at hj
      rw [if_neg (by rw [← hj]; simp)] at hS
      have hr := hj.symm
      clear hj hlt hi
      simp only [c1, q_wpLs_eq_1, q_wpLs_eq_2, q_wpL_eq_1, q_exL_eq_11, q_exL_eq_28, q_look_eq_1, q_insT_eq_1, q_awl_eq_2, q_awl_eq_5, q_awl_eq_6, q_awl_eq_9, q_AE_thenL_eq_1, q_AE_thenL_eq_2, q_AE_inBlockL_eq_2, q_putK_eq_1, q_vBin_eq_1, q_resV_eq_1, q_binV_eq_1, q_binInt_eq_3, q_cutInt_eq_8, q_List_map_nil, true_and, if_true, Int.reduceNeg, Nat.reduceBEq, q_learn_eq_1, q_condK_eq_1, q_condB_eq_2, decide_false, lookT_here, lookT_next, uf20r30, uf20b31, uf20b44, uf20b45, uf20r46, uf20b47]
      refine call_r s44 ?_
      simp only [kindsRow_len, List.length_map, q_wpLs_eq_1, q_wpLs_eq_2, q_wpL_eq_1, q_exL_eq_1, q_exL_eq_4, q_exL_eq_8, q_exL_eq_9, q_exL_eq_21, q_exL_eq_30, q_look_eq_1, q_look_eq_2, q_insT_eq_1, q_insO_eq_1, q_awl_eq_2, q_awl_eq_5, q_awl_eq_7, q_AE_thenL_eq_1, q_putK_eq_1, q_vFaddr_eq_1, q_loadO_eq_1, q_isV_eq_1, q_vLoad_eq_1, q_V_cells_eq_2, q_splice_eq_1, q_isVarO_eq_1, q_stVarK_eq_1, q_storeK_eq_1, q_freeB_eq_1, q_freeT_eq_1, q_freeT_eq_2, q_freeO_eq_1, q_freeO_eq_2, q_V_noRef_eq_1, q_V_noRef_eq_2, q_K_noRef_eq_1, q_K_noRef_eq_3, q_O_noRef_eq_1, q_regN_eq_2, q_V_reg_eq_4, q_freesL_eq_1, q_addsL_eq_1, q_regK_eq_1, q_retK_eq_2, q_List_map_cons, q_List_map_nil, q_List_take_zero, q_List_drop_succ_cons, q_List_drop_zero, q_List_nil_append, q_List_length_cons, q_List_length_nil, true_and, bne_iff_ne, ne_eq, Bool.and_true, Bool.true_and, Bool.or_true, Bool.false_or, List.append_nil, Nat.reduceAdd, Nat.reduceMul, Nat.reduceEqDiff, Nat.reduceBEq, Nat.zero_add, Nat.le_refl, not_false_eq_true, r_vLen_lst, List.length_map, encOrder_len, lookT_here, lookT_next, lookO_here, lookO_next, f_or3, r_all_noRef, uf20b26, uf20r27, uf20b28, uf20b29]
      rw [uf20l25]
      refine awl_loop (fun i : Nat => [(8, .k (.ptr 8 0)), (55, lst 4 (o.rules.map encRule)), (56, .int .i64 o.rules.length), (57, .int .i64 i)]) (fun _ => [(8, .var 65 (kindsRow.map .c))])
        (fun i => i ≤ o.rules.length ∧ tys (o.rules.drop i) = tys o.rules) (fun i => o.rules.length - i) 0 rfl rfl ⟨Nat.zero_le _, rfl⟩ ?_
      rintro i ⟨hi, hj⟩
      by_cases hlt : i < o.rules.length
      · have c1 : (i : Int) < o.rules.length := by omega
        have c4 : IntKind.i64.wrap ((i : Int) + 1) = (i : Int) + 1 := wrap_in (by omega) (by omega)
        rw [tys_drop hlt] at hj
        obtain ⟨q1, q2⟩ := rls_range _ _ hr o.rules[i] (List.getElem_mem hlt)
        have q3 : 0 ≤ o.rules[i].ask := by omega
        have q4 := kinds_at q3 q2
        have q5 : o.rules[i].ask.toNat + 1 ≤ 22 := by omega
        simp only [c1, c4, map_at hlt, q_wpLs_eq_1, q_wpLs_eq_2, q_wpL_eq_1, q_exL_eq_4, q_exL_eq_8, q_exL_eq_9, q_exL_eq_11, q_exL_eq_21, q_exL_eq_23, q_exL_eq_28, q_look_eq_1, q_insT_eq_1, q_insO_eq_1, q_awl_eq_1, q_awl_eq_2, q_awl_eq_5, q_awl_eq_6, q_awl_eq_7, q_AE_thenL_eq_1, q_putK_eq_1, q_vBin_eq_1, q_resV_eq_1, q_binV_eq_1, q_binInt_eq_3, q_cutInt_eq_8, q_vFaddr_eq_1, q_partV_eq_1, q_loadO_eq_1, q_isV_eq_1, q_vLoad_eq_1, q_vLoad_eq_2, q_V_cells_eq_2, q_splice_eq_1, q_isVarO_eq_1, q_stVarK_eq_1, q_storeK_eq_1, q_freeB_eq_1, q_freeT_eq_1, q_freeT_eq_2, q_freeO_eq_1, q_freeO_eq_2, q_V_noRef_eq_1, q_V_noRef_eq_2, q_K_noRef_eq_1, q_K_noRef_eq_3, q_K_noRef_eq_5, q_O_noRef_eq_1, q_List_map_cons, q_List_map_nil, q_List_take_zero, q_List_drop_succ_cons, q_List_drop_zero, q_List_nil_append, q_List_length_cons, q_List_length_nil, true_and, if_true, and_self, bne_iff_ne, ne_eq, Bool.and_true, Bool.true_and, Bool.or_true, Bool.false_or, List.append_nil, Nat.reduceAdd, Nat.reduceEqDiff, Nat.reduceBEq, Nat.zero_add, Int.toNat_natCast, Nat.le_refl, Int.natCast_nonneg, q_learn_eq_1, not_false_eq_true, q_condK_eq_1, q_condB_eq_1, decide_true, r_vIaddr_lst, List.length_map, encRule_len, lookT_here, lookT_next, lookO_here, f_rule1, r_all_noRef, uf20r3, uf20r15, uf20b16, uf20r17, uf20b18, uf20b19, uf20b20, uf20b21, uf20b22, uf20r23, uf20b24]
        refine call_s (s31 o.rules[i].term) ?_
        simp only [pairV, q2, q3, q4, q5, c4, kindsRow_len, List.length_map, q_wpLs_eq_1, q_wpLs_eq_2, q_wpL_eq_1, q_exL_eq_1, q_exL_eq_8, q_exL_eq_11, q_exL_eq_21, q_exL_eq_24, q_exL_eq_27, q_look_eq_1, q_look_eq_2, q_insT_eq_1, q_awl_eq_1, q_awl_eq_2, q_awl_eq_5, q_awl_eq_6, q_awl_eq_10, q_AE_thenL_eq_1, q_AE_thenL_eq_3, q_AE_inBlockL_eq_1, q_AE_inBlockL_eq_3, q_putK_eq_1, q_vBin_eq_1, q_resV_eq_1, q_binV_eq_1, q_binInt_eq_3, q_cutInt_eq_1, q_cutInt_eq_7, q_vExtr_eq_1, q_vFaddr_eq_1, q_loadO_eq_1, q_isV_eq_1, q_vLoad_eq_1, q_vIaddrA_eq_1, q_ofRow_eq_1, q_pureRow_eq_1, q_pureRow_eq_2, q_isVarO_eq_1, q_mapT_eq_1, q_mapT_eq_2, q_mapO_eq_1, q_mapO_eq_2, q_endK_eq_2, q_endL_eq_1, q_endV_eq_1, q_resL_eq_1, q_resL_eq_2, q_resX_eq_1, q_one_eq_1, q_V_nrm_eq_1, q_V_nrm_eq_2, q_V_nrm_eq_4, q_K_nrm_eq_1, q_K_nrm_eq_2, q_K_nrm_eq_3, q_V_nrmL_eq_1, q_V_nrmL_eq_2, q_O_nrm_eq_1, q_V_owns_eq_1, q_K_owns_eq_2, q_V_toNew_eq_1, q_K_toNew_eq_1, q_C_norm_eq_1, q_C_norm_eq_4, q_C_norm_eq_5, q_C_normRows_eq_1, q_Option_map_some, q_List_map_cons, q_List_map_nil, q_List_drop_zero, q_List_getElemQ_cons_zero, q_List_getElemQ_cons_succ, q_List_isEmpty_nil, true_and, if_true, if_false, Bool.false_eq_true, and_self, List.nodup_nil, Nat.reduceLeDiff, Nat.reduceBEq, Nat.zero_add, Nat.add_zero, q_learn_eq_1, q_condK_eq_1, condB_bne, norm_lst, normRows_R, encT_norm, encRule_norm, List.length_map, encRule_len, lookT_here, lookT_next, Int.cast_ofNat_Int, lookO_here, lookO_next, f_rule0, Nat.mul_one, r_map_nrm, uf20r4, uf20b5, uf20b6, uf20r7, uf20b8, uf20r9, uf20b10, uf20b11, uf20r12, uf20b13, uf20b14]
        refine ⟨fun h => ?_, fun h => ⟨fun h2 => ?_, fun h2 => ?_⟩⟩
        · rw [if_pos h] at hj
          exact fin hS (by rw [← hj])
        · rw [if_neg (by simp [h]), if_pos h2] at hj
          exact fin hS (by rw [← hj])
        · rw [if_neg (by simp [h]), if_neg (by simp [h2])] at hj
          exact Next.intro (i + 1) rfl rfl ⟨by omega, hj⟩ (by omega)
      · have c1 : ¬ (i : Int) < o.rules.length := by omega
        rw [List.drop_eq_nil_of_le (by omega), tys] at hj
        simp only [c1, q_wpLs_eq_1, q_wpLs_eq_2, q_wpL_eq_1, q_exL_eq_1, q_exL_eq_11, q_look_eq_1, q_look_eq_2, q_insT_eq_1, q_awl_eq_2, q_awl_eq_5, q_awl_eq_6, q_awl_eq_9, q_awl_eq_10, q_AE_thenL_eq_1, q_AE_thenL_eq_2, q_AE_inBlockL_eq_2, q_putK_eq_1, q_vBin_eq_1, q_resV_eq_1, q_binV_eq_1, q_binInt_eq_3, q_cutInt_eq_8, q_mapT_eq_1, q_mapT_eq_2, q_mapO_eq_1, q_mapO_eq_2, q_endK_eq_2, q_endL_eq_1, q_endV_eq_1, q_resL_eq_1, q_resL_eq_2, q_resX_eq_1, q_one_eq_1, q_V_nrm_eq_1, q_K_nrm_eq_1, q_K_nrm_eq_3, q_O_nrm_eq_1, q_V_owns_eq_1, q_K_owns_eq_2, q_V_toNew_eq_1, q_K_toNew_eq_1, q_C_norm_eq_4, q_C_norm_eq_5, true_and, if_true, and_self, List.nodup_nil, Nat.reduceBEq, q_learn_eq_1, q_condK_eq_1, q_condB_eq_2, decide_false, norm_lst, normRows_R, lookT_here, lookT_next, r_map_nrm, uf20r1, uf20b2, uf20b21, uf20b22, uf20r23, uf20b24]
        exact fin hS (by rw [← hj])
theorem s18 (l : List Order) : Spec Try.prog 18 [lst 4 (l.map encOrder)] (fun r => r = pairV (ordersO l 0)) := by
  refine Spec.of_len hf18 fun hlen => ?_
  have hl := len_lst (sz := 4) (rows := l.map encOrder) List.mem_cons_self hlen
  rw [List.length_map] at hl
  clear hlen
  refine Spec.of_awlS hf18 okf18 (by simp) fun S hS => ?_
  simp only [q_wpLs_eq_1, q_wpLs_eq_2, q_wpL_eq_1, q_exL_eq_1, q_exL_eq_30, q_look_eq_1, q_look_eq_2, q_lookO_eq_1, q_insT_eq_1, q_awl_eq_2, q_awl_eq_5, q_awl_eq_7, q_AE_thenL_eq_1, q_initT_eq_1, q_initT_eq_2, q_putK_eq_1, true_and, Nat.reduceBEq, Nat.zero_add, r_vLen_lst, List.length_map, lookT_here, lookT_next, uf18, uf18b20, uf18r21, uf18b22, uf18b23, uf18r24, uf18b25]
  rw [uf18l19]
  refine awl_loop (fun i : Nat => [(7, lst 4 (l.map encOrder)), (8, .int .i64 l.length), (9, .int .i64 i)]) (fun _ => [])
    (fun i => i ≤ l.length ∧ ordersO (l.drop i) i = ordersO l 0) (fun i => l.length - i) 0 rfl rfl ⟨Nat.zero_le _, rfl⟩ ?_
  rintro i ⟨hi, hj⟩
  by_cases hlt : i < l.length
  · have c1 : (i : Int) < l.length := by omega
    have c4 : IntKind.i64.wrap ((i : Int) + 1) = (i : Int) + 1 := wrap_in (by omega) (by omega)
    rw [ordersO_drop hlt] at hj
    simp only [c1, map_at hlt, q_wpLs_eq_1, q_wpLs_eq_2, q_wpL_eq_1, q_exL_eq_1, q_exL_eq_4, q_exL_eq_8, q_exL_eq_9, q_exL_eq_11, q_exL_eq_23, q_exL_eq_28, q_look_eq_1, q_lookO_eq_1, q_insT_eq_1, q_insO_eq_1, q_awl_eq_1, q_awl_eq_2, q_awl_eq_5, q_awl_eq_6, q_awl_eq_7, q_AE_thenL_eq_1, q_putK_eq_1, q_vBin_eq_1, q_resV_eq_1, q_binV_eq_1, q_binInt_eq_3, q_cutInt_eq_8, q_partV_eq_1, q_loadO_eq_1, q_isV_eq_1, q_vLoad_eq_1, q_vLoad_eq_2, q_V_cells_eq_2, q_splice_eq_1, q_stVarK_eq_1, q_storeK_eq_1, q_freeB_eq_1, q_freeT_eq_1, q_freeT_eq_2, q_freeO_eq_1, q_V_noRef_eq_1, q_V_noRef_eq_2, q_K_noRef_eq_1, q_K_noRef_eq_5, q_List_map_cons, q_List_map_nil, q_List_take_zero, q_List_drop_succ_cons, q_List_drop_zero, q_List_nil_append, q_List_length_cons, q_List_length_nil, true_and, if_true, and_self, Bool.and_true, Bool.or_true, List.append_nil, Nat.reduceAdd, Nat.reduceBEq, Nat.zero_add, Int.toNat_natCast, Nat.le_refl, Int.natCast_nonneg, q_learn_eq_1, q_condK_eq_1, q_condB_eq_1, decide_true, r_vIaddr_lst, List.length_map, r_ofRow_take, encOrder_len, lookT_here, lookT_next, lookO_here, uf18r3, uf18r9, uf18b10, uf18r11, uf18b12, uf18b13, uf18b14, uf18b15, uf18b16, uf18r17, uf18b18]
    refine call_s (s20 l[i]) ?_
    simp only [c4, q_wpLs_eq_1, q_wpLs_eq_2, q_wpL_eq_1, q_exL_eq_1, q_exL_eq_11, q_look_eq_1, q_look_eq_2, q_insT_eq_1, q_awl_eq_1, q_awl_eq_2, q_awl_eq_5, q_awl_eq_6, q_awl_eq_10, q_AE_thenL_eq_1, q_AE_thenL_eq_3, q_AE_inBlockL_eq_1, q_AE_inBlockL_eq_3, q_putK_eq_1, q_vBin_eq_1, q_resV_eq_1, q_binV_eq_1, q_binInt_eq_3, q_cutInt_eq_1, q_cutInt_eq_7, q_mapT_eq_1, q_mapT_eq_2, q_mapO_eq_1, q_mapO_eq_2, q_endK_eq_2, q_endL_eq_1, q_endV_eq_1, q_resL_eq_1, q_resL_eq_2, q_resX_eq_1, q_one_eq_2, q_V_nrm_eq_1, q_V_nrm_eq_2, q_K_nrm_eq_1, q_K_nrm_eq_2, q_K_nrm_eq_3, q_O_nrm_eq_1, q_V_owns_eq_1, q_V_owns_eq_3, q_K_owns_eq_2, q_V_ownsL_eq_1, q_V_ownsL_eq_2, q_V_toNew_eq_1, q_V_toNew_eq_4, q_K_toNew_eq_1, q_V_toNewL_eq_1, q_V_toNewL_eq_2, q_C_norm_eq_1, q_C_norm_eq_4, q_C_norm_eq_5, q_C_norm_eq_6, q_C_normRows_eq_1, q_List_map_cons, q_List_map_nil, q_List_isEmpty_nil, true_and, if_true, and_self, List.append_nil, List.nodup_nil, Nat.reduceBEq, q_learn_eq_1, q_condK_eq_1, condB_bne, norm_lst, normRows_O, encOrder_norm, lookT_here, lookT_next, r_map_nrm, uf18r4, uf18b5, uf18b6, uf18r7, uf18b8]
    refine ⟨fun h => ?_, fun h => ?_⟩
    · rw [if_pos h] at hj
      exact fin hS (by rw [← hj]; rfl)
    · rw [if_neg (by simp [h])] at hj
      exact Next.intro (i + 1) rfl rfl ⟨by omega, hj⟩ (by omega)
  · have c1 : ¬ (i : Int) < l.length := by omega
    rw [List.drop_eq_nil_of_le (by omega), ordersO] at hj
    simp only [c1, q_wpLs_eq_1, q_wpLs_eq_2, q_wpL_eq_1, q_exL_eq_1, q_exL_eq_11, q_look_eq_1, q_look_eq_2, q_lookO_eq_1, q_insT_eq_1, q_awl_eq_2, q_awl_eq_5, q_awl_eq_6, q_awl_eq_9, q_awl_eq_10, q_AE_thenL_eq_1, q_AE_thenL_eq_2, q_AE_inBlockL_eq_2, q_putK_eq_1, q_vBin_eq_1, q_resV_eq_1, q_binV_eq_1, q_binInt_eq_3, q_cutInt_eq_8, q_mapT_eq_1, q_mapT_eq_2, q_mapO_eq_1, q_endK_eq_2, q_endL_eq_1, q_endV_eq_1, q_resL_eq_1, q_resL_eq_2, q_resX_eq_1, q_one_eq_2, q_V_nrm_eq_1, q_K_nrm_eq_1, q_V_owns_eq_1, q_V_owns_eq_3, q_K_owns_eq_2, q_V_ownsL_eq_1, q_V_ownsL_eq_2, q_V_toNew_eq_1, q_V_toNew_eq_4, q_K_toNew_eq_1, q_V_toNewL_eq_1, q_V_toNewL_eq_2, q_C_norm_eq_4, q_C_norm_eq_5, true_and, if_true, and_self, Int.reduceNeg, List.append_nil, List.nodup_nil, Nat.reduceBEq, q_learn_eq_1, q_condK_eq_1, q_condB_eq_2, decide_false, norm_lst, normRows_O, lookT_here, lookT_next, uf18r1, uf18b2, uf18b15, uf18b16, uf18r17, uf18b18]
    exact fin hS (by rw [← hj]; rfl)
end Go.Abs


namespace Go.Abs
theorem tys_ok : ∀ (l : List Rule), tys l = 0 → ∀ r ∈ l, (checkT r.term).2 = 0 ∧ (checkT r.term).1 = qtype r.ask
  | [], _, r, h => by simp at h
  | a :: l, h, r, hr => by
    rw [tys] at h
    split at h
    · rename_i hc; exact absurd h hc
    · rename_i hc
      split at h
      · simp at h
      · rename_i hq
        rcases List.mem_cons.1 hr with rfl | hr
        · exact ⟨by simpa using hc, by simpa using hq⟩
        · exact tys_ok l h r hr
theorem few_60 {o : Order} (h : fewO o = true) : o.rules.length ≤ 60 := by
  unfold fewO at h
  split at h
  · simp at h
  · omega
structure OkO (o : Order) : Prop where
  chs : chs o.choices (-1) = true
  rls : rls o.rules (-1) = true
  tys : tys o.rules = 0
theorem checkO_ok {o : Order} (h : checkO o = 0) : OkO o := by
  unfold checkO at h
  split at h
  · simp at h
  · rename_i h1
    split at h
    · simp at h
    · rename_i h2
      exact ⟨by simpa using h1, by simpa using h2, h⟩
theorem OkO.ask {o : Order} (h : OkO o) {r : Rule} (hr : r ∈ o.rules) : 0 ≤ r.ask ∧ r.ask < 22 := by
  have := rls_range _ _ h.rls r hr; omega
theorem OkO.wt {o : Order} (h : OkO o) {r : Rule} (hr : r ∈ o.rules) : (checkT r.term).2 = 0 ∧ WT r.term (qtype r.ask) := by
  obtain ⟨h1, h2⟩ := tys_ok _ h.tys r hr
  have h3 := (checkT_ok h1).1
  rw [h3] at h1 h2
  refine ⟨by rw [h3]; exact h1, ?_⟩
  rw [← h2]
  exact wt_of _ h1
theorem rls_asc : ∀ (l : List Rule) (last : Int), rls l last = true → (l.map (·.ask)).Pairwise (· < ·)
  | [], _, _ => List.Pairwise.nil
  | a :: l, last, h => by
    simp only [rls] at h
    split at h
    · simp at h
    · rw [List.map_cons, List.pairwise_cons]
      refine ⟨fun x hx => ?_, rls_asc l _ h⟩
      obtain ⟨r, hr, rfl⟩ := List.mem_map.1 hx
      exact (rls_range _ _ h r hr).1
end Go.Abs


set_option maxRecDepth 100000
set_option maxHeartbeats 4000000
namespace Go.Abs
open Go.Proofs
end Go.Abs


set_option maxRecDepth 100000
set_option maxHeartbeats 4000000
namespace Go.Abs
open Go.Proofs
theorem of_orF {p : Prop} (h : p ∨ False) : p := h.elim id False.elim
def capI (q : Int) : C := .ro [.int .i64 q] 0
theorem s47 (r : Rule) (q : Int) : Spec Try.prog 47 [.agg (encRule r), .k (.c (capI q))] (fun x => x = .bool (decide (r.ask = q))) := by
  refine Spec.of_awlS hf47 okf47 (by simp) fun S hS => ?_
  simp only [capI, q_wpLs_eq_1, q_wpLs_eq_2, q_wpL_eq_1, q_exL_eq_1, q_exL_eq_5, q_exL_eq_8, q_exL_eq_11, q_exL_eq_21, q_look_eq_1, q_look_eq_2, q_insT_eq_1, q_insO_eq_1, q_awl_eq_2, q_awl_eq_5, q_awl_eq_10, q_AE_thenL_eq_1, q_initT_eq_1, q_initT_eq_2, q_putK_eq_1, q_vBin_eq_1, q_resV_eq_1, q_binV_eq_1, q_binInt_eq_3, q_cutInt_eq_6, q_vFaddr_eq_1, q_loadO_eq_1, q_isV_eq_1, q_vLoad_eq_1, q_vLoad_eq_4, q_ofRow_eq_1, q_pureRow_eq_1, q_pureRow_eq_2, q_isVarO_eq_1, q_boxK_eq_1, q_mapT_eq_1, q_mapT_eq_2, q_mapO_eq_1, q_mapO_eq_2, q_freeB_eq_1, q_freeT_eq_1, q_freeT_eq_2, q_freeO_eq_1, q_V_noRef_eq_1, q_V_noRef_eq_2, q_K_noRef_eq_1, q_endK_eq_2, q_endL_eq_1, q_endV_eq_1, q_resL_eq_1, q_resL_eq_2, q_resX_eq_1, q_one_eq_1, q_V_nrm_eq_1, q_V_nrm_eq_2, q_K_nrm_eq_1, q_K_nrm_eq_3, q_O_nrm_eq_1, q_V_owns_eq_1, q_K_owns_eq_2, q_V_toNew_eq_1, q_K_toNew_eq_1, q_C_norm_eq_2, q_C_norm_eq_4, q_C_norm_eq_5, q_C_normRow_eq_1, q_C_normRow_eq_2, q_Option_map_some, q_List_map_cons, q_List_map_nil, q_List_take_succ_cons, q_List_take_zero, q_List_drop_zero, q_List_length_cons, q_List_length_nil, true_and, if_true, if_false, Bool.false_eq_true, and_self, Bool.and_true, Bool.or_true, List.nodup_nil, Nat.reduceAdd, Nat.reduceLeDiff, Nat.reduceBEq, Nat.zero_add, Nat.add_zero, Nat.le_refl, encRule_norm, List.length_map, encRule_len, lookT_here, lookT_next, lookO_here, f_rule0, r_map_nrm, uf47, uf47r1, uf47b2, uf47r3, uf47b4]
  refine fin hS ?_
  by_cases h : r.ask = q <;> simp [h]
theorem s67 (l : List Rule) (q : Int) : Spec Try.prog 67 [lst 4 (l.map encRule), .k (.c (.fn 47 [capI q]))] (fun r => r = .int .i64 (rix l q 0)) := by
  refine Spec.of_len hf67 fun hlen => ?_
  have hl := len_lst (sz := 4) (rows := l.map encRule) List.mem_cons_self hlen
  rw [List.length_map] at hl
  clear hlen
  refine Spec.of_awlS hf67 okf67 (by simp) fun S hS => ?_
  simp only [q_wpLs_eq_1, q_wpLs_eq_2, q_wpL_eq_1, q_exL_eq_1, q_exL_eq_30, q_look_eq_1, q_look_eq_2, q_lookO_eq_1, q_insT_eq_1, q_awl_eq_2, q_awl_eq_5, q_awl_eq_7, q_AE_thenL_eq_1, q_initT_eq_1, q_initT_eq_2, q_putK_eq_1, true_and, Nat.reduceAdd, Nat.reduceBEq, Nat.zero_add, r_vLen_lst, List.length_map, lookT_here, lookT_next, uf67, uf67b18, uf67r19, uf67b20, uf67b21, uf67r22, uf67b23]
  rw [uf67l17]
  refine awl_loop (fun i : Nat => [(0, lst 4 (l.map encRule)), (1, .k (.c (.fn 47 [capI q]))), (7, .int .i64 l.length), (8, .int .i64 i)]) (fun _ => [])
    (fun i => i ≤ l.length ∧ rix (l.drop i) q i = rix l q 0) (fun i => l.length - i) 0 rfl rfl ⟨Nat.zero_le _, rfl⟩ ?_
  rintro i ⟨hi, hj⟩
  by_cases hlt : i < l.length
  · have c1 : (i : Int) < l.length := by omega
    have c4 : IntKind.i64.wrap ((i : Int) + 1) = (i : Int) + 1 := wrap_in (by omega) (by omega)
    rw [rix_drop hlt] at hj
    simp only [c1, c4, map_at hlt, q_wpLs_eq_1, q_wpLs_eq_2, q_wpL_eq_1, q_exL_eq_1, q_exL_eq_8, q_exL_eq_11, q_exL_eq_23, q_exL_eq_29, q_look_eq_1, q_lookO_eq_1, q_insT_eq_1, q_awl_eq_1, q_awl_eq_2, q_awl_eq_5, q_awl_eq_6, q_awl_eq_7, q_AE_thenL_eq_1, q_putK_eq_1, q_vBin_eq_1, q_resV_eq_1, q_binV_eq_1, q_binInt_eq_3, q_cutInt_eq_8, q_partV_eq_1, q_vLoad_eq_2, q_List_map_cons, q_List_map_nil, q_List_drop_zero, true_and, if_true, and_self, Nat.reduceBEq, Nat.zero_add, Int.toNat_natCast, Nat.le_refl, Int.natCast_nonneg, q_learn_eq_1, q_condK_eq_1, q_condB_eq_1, decide_true, r_vIaddr_lst, List.length_map, lookT_here, lookT_next, uf67r3, uf67r7, uf67b8, uf67r9, uf67b10, uf67b11, uf67b12, uf67b13, uf67b14, uf67r15, uf67b16]
    refine call_c (s47 l[i] q) ?_ (ha := by simp [lendL, V.norm, capI])
    by_cases h : l[i].ask = q
    · rw [if_pos h] at hj
      simp only [h, q_wpLs_eq_1, q_wpLs_eq_2, q_wpL_eq_1, q_exL_eq_1, q_look_eq_1, q_lookO_eq_1, q_insT_eq_1, q_awl_eq_2, q_awl_eq_5, q_awl_eq_6, q_awl_eq_10, q_AE_thenL_eq_1, q_AE_thenL_eq_3, q_AE_inBlockL_eq_3, q_mapT_eq_1, q_mapT_eq_2, q_mapO_eq_1, q_endK_eq_2, q_endL_eq_1, q_endV_eq_1, q_resL_eq_1, q_resL_eq_2, q_resX_eq_1, q_one_eq_1, q_V_nrm_eq_1, q_V_nrm_eq_2, q_K_nrm_eq_1, q_K_nrm_eq_2, q_V_owns_eq_1, q_K_owns_eq_2, q_V_toNew_eq_1, q_K_toNew_eq_1, q_C_norm_eq_3, q_C_norm_eq_4, q_C_norm_eq_5, q_C_normRow_eq_1, q_C_normRow_eq_2, true_and, and_self, List.nodup_nil, Nat.reduceBEq, q_learn_eq_1, q_condK_eq_1, q_condB_eq_1, decide_true, norm_lst, normRows_R, encRule_norm, lookT_here, lookT_next, uf67r4, uf67b5, uf67b6]
      exact fin hS (by rw [← hj])
    · rw [if_neg h] at hj
      simp only [h, c4, q_wpLs_eq_1, q_wpLs_eq_2, q_wpL_eq_1, q_exL_eq_1, q_exL_eq_11, q_look_eq_1, q_look_eq_2, q_insT_eq_1, q_awl_eq_1, q_awl_eq_2, q_awl_eq_6, q_AE_thenL_eq_1, q_AE_inBlockL_eq_1, q_putK_eq_1, q_vBin_eq_1, q_resV_eq_1, q_binV_eq_1, q_binInt_eq_3, q_cutInt_eq_1, true_and, if_true, Nat.reduceBEq, q_learn_eq_1, q_condK_eq_1, q_condB_eq_2, decide_false, lookT_here, lookT_next, uf67b6]
      exact Next.intro (i + 1) rfl rfl ⟨by omega, hj⟩ (by omega)
  · have c1 : ¬ (i : Int) < l.length := by omega
    simp only [c1, q_wpLs_eq_1, q_wpLs_eq_2, q_wpL_eq_1, q_exL_eq_1, q_exL_eq_11, q_look_eq_1, q_look_eq_2, q_lookO_eq_1, q_insT_eq_1, q_awl_eq_2, q_awl_eq_5, q_awl_eq_6, q_awl_eq_9, q_awl_eq_10, q_AE_thenL_eq_1, q_AE_thenL_eq_2, q_AE_inBlockL_eq_2, q_putK_eq_1, q_vBin_eq_1, q_resV_eq_1, q_binV_eq_1, q_binInt_eq_3, q_cutInt_eq_8, q_mapT_eq_1, q_mapT_eq_2, q_mapO_eq_1, q_endK_eq_2, q_endL_eq_1, q_endV_eq_1, q_resL_eq_1, q_resL_eq_2, q_resX_eq_1, q_one_eq_1, q_V_nrm_eq_1, q_K_nrm_eq_1, q_V_owns_eq_1, q_K_owns_eq_2, q_V_toNew_eq_1, q_K_toNew_eq_1, q_C_norm_eq_3, q_C_norm_eq_4, q_C_norm_eq_5, q_C_normRow_eq_1, q_C_normRow_eq_2, true_and, if_true, and_self, Int.reduceNeg, List.nodup_nil, Nat.reduceBEq, q_learn_eq_1, q_condK_eq_1, q_condB_eq_2, decide_false, norm_lst, normRows_R, lookT_here, lookT_next, uf67r1, uf67b2, uf67b13, uf67b14, uf67r15, uf67b16]
    rw [List.drop_eq_nil_of_le (by omega), rix] at hj
    exact fin hS (by rw [← hj])
theorem s46 (l : List Rule) (q : Int) : Spec Try.prog 46 [lst 4 (l.map encRule), .k (.c (.fn 47 [capI q]))] (fun r => r = .bool (hasR l q)) := by
  refine Spec.of_awlS hf46 okf46 (by simp) fun S hS => ?_
  simp only [q_wpLs_eq_1, q_wpLs_eq_2, q_wpL_eq_1, q_exL_eq_1, q_exL_eq_28, q_look_eq_1, q_look_eq_2, q_insT_eq_1, q_awl_eq_2, q_awl_eq_5, q_AE_thenL_eq_1, q_initT_eq_1, q_initT_eq_2, q_List_map_cons, q_List_map_nil, Nat.reduceAdd, Nat.reduceBEq, Nat.zero_add, lookT_here, lookT_next, uf46, uf46r1, uf46b2, uf46r3, uf46b4]
  refine call_s (s67 l q) ?_ (ha := by simp [lendL, V.norm, capI, lst])
  simp only [q_wpLs_eq_1, q_wpLs_eq_2, q_wpL_eq_1, q_exL_eq_1, q_exL_eq_11, q_look_eq_1, q_look_eq_2, q_lookO_eq_1, q_insT_eq_1, q_awl_eq_10, q_putK_eq_1, q_vBin_eq_1, q_resV_eq_1, q_binV_eq_1, q_binInt_eq_3, q_cutInt_eq_11, q_mapT_eq_1, q_mapT_eq_2, q_mapO_eq_1, q_endK_eq_2, q_endL_eq_1, q_endV_eq_1, q_resL_eq_1, q_resL_eq_2, q_resX_eq_1, q_one_eq_1, q_V_nrm_eq_1, q_K_nrm_eq_1, q_V_owns_eq_1, q_K_owns_eq_2, q_V_toNew_eq_1, q_K_toNew_eq_1, q_C_norm_eq_3, q_C_norm_eq_4, q_C_norm_eq_5, q_C_normRow_eq_1, q_C_normRow_eq_2, true_and, if_true, and_self, List.nodup_nil, norm_lst, normRows_R, lookT_here]
  refine fin hS ?_
  have := (rix_neg l q 0 (by omega)).2
  congr 3
  by_cases h : 0 ≤ rix l q 0
  · simp [h, this.1 h]
  · have h2 : hasR l q = false := by
      cases hh : hasR l q
      · rfl
      · exact absurd (this.2 hh) h
    simp [h2]; omega
theorem s53 (v : Int) : Spec Try.prog 53 [.int .i64 v] (fun x => x = .bool (decide (v ≥ 15))) := by
  refine Spec.of_awlS hf53 okf53 (by simp) fun S hS => ?_
  simp only [q_wpLs_eq_1, q_wpLs_eq_2, q_wpL_eq_1, q_exL_eq_1, q_exL_eq_11, q_look_eq_1, q_look_eq_2, q_lookO_eq_1, q_insT_eq_1, q_awl_eq_2, q_awl_eq_5, q_awl_eq_10, q_AE_thenL_eq_1, q_initT_eq_1, q_initT_eq_2, q_putK_eq_1, q_vBin_eq_1, q_resV_eq_1, q_binV_eq_1, q_binInt_eq_3, q_cutInt_eq_11, q_mapT_eq_1, q_mapT_eq_2, q_mapO_eq_1, q_endK_eq_2, q_endL_eq_1, q_endV_eq_1, q_resL_eq_1, q_resL_eq_2, q_resX_eq_1, q_one_eq_1, q_V_nrm_eq_1, q_K_nrm_eq_1, q_V_owns_eq_1, q_K_owns_eq_2, q_V_toNew_eq_1, q_K_toNew_eq_1, q_C_norm_eq_4, q_C_norm_eq_5, true_and, if_true, and_self, List.nodup_nil, Nat.reduceBEq, Nat.zero_add, lookT_here, lookT_next, uf53, uf53r1, uf53b2, uf53r3, uf53b4]
  exact fin hS rfl
theorem s70 (l : List Int) : Spec Try.prog 70 [lst 1 (ints l), .k (.c (.fn 53 []))] (fun r => r = .int .i64 (ixP (fun v => decide (v ≥ 15)) l 0)) := by
  refine Spec.of_len hf70 fun hlen => ?_
  have hl := len_lst (sz := 1) (rows := ints l) List.mem_cons_self hlen
  rw [ints_len] at hl
  clear hlen
  refine Spec.of_awlS hf70 okf70 (by simp) fun S hS => ?_
  simp only [q_wpLs_eq_1, q_wpLs_eq_2, q_wpL_eq_1, q_exL_eq_1, q_exL_eq_30, q_look_eq_1, q_look_eq_2, q_lookO_eq_1, q_insT_eq_1, q_awl_eq_2, q_awl_eq_5, q_awl_eq_7, q_AE_thenL_eq_1, q_initT_eq_1, q_initT_eq_2, q_putK_eq_1, true_and, Nat.reduceAdd, Nat.reduceBEq, Nat.zero_add, r_vLen_lst, ints_len, lookT_here, lookT_next, uf70, uf70b18, uf70r19, uf70b20, uf70b21, uf70r22, uf70b23]
  rw [uf70l17]
  refine awl_loop (fun i : Nat => [(0, lst 1 (ints l)), (1, .k (.c (.fn 53 []))), (7, .int .i64 l.length), (8, .int .i64 i)]) (fun _ => [])
    (fun i => i ≤ l.length ∧ ixP (fun v => decide (v ≥ 15)) (l.drop i) i = ixP (fun v => decide (v ≥ 15)) l 0) (fun i => l.length - i) 0 rfl rfl ⟨Nat.zero_le _, rfl⟩ ?_
  rintro i ⟨hi, hj⟩
  by_cases hlt : i < l.length
  · have c1 : (i : Int) < l.length := by omega
    have c4 : IntKind.i64.wrap ((i : Int) + 1) = (i : Int) + 1 := wrap_in (by omega) (by omega)
    rw [ixP_drop hlt] at hj
    simp only [c1, c4, ints_at hlt, q_wpLs_eq_1, q_wpLs_eq_2, q_wpL_eq_1, q_exL_eq_1, q_exL_eq_8, q_exL_eq_11, q_exL_eq_23, q_exL_eq_29, q_look_eq_1, q_lookO_eq_1, q_insT_eq_1, q_awl_eq_1, q_awl_eq_2, q_awl_eq_5, q_awl_eq_6, q_awl_eq_7, q_AE_thenL_eq_1, q_putK_eq_1, q_vBin_eq_1, q_resV_eq_1, q_binV_eq_1, q_binInt_eq_3, q_cutInt_eq_8, q_partV_eq_2, q_vLoad_eq_2, q_List_map_cons, q_List_map_nil, q_List_getD_cons_zero, true_and, if_true, and_self, Nat.reduceBEq, Nat.zero_add, Int.toNat_natCast, Nat.le_refl, Int.natCast_nonneg, q_learn_eq_1, q_condK_eq_1, q_condB_eq_1, decide_true, r_vIaddr_lst, ints_len, lookT_here, lookT_next, uf70r3, uf70r7, uf70b8, uf70r9, uf70b10, uf70b11, uf70b12, uf70b13, uf70b14, uf70r15, uf70b16]
    refine call_c (s53 l[i]) ?_
    by_cases h : l[i] ≥ 15
    · rw [if_pos (by simpa using h)] at hj
      simp only [h, q_wpLs_eq_1, q_wpLs_eq_2, q_wpL_eq_1, q_exL_eq_1, q_look_eq_1, q_lookO_eq_1, q_insT_eq_1, q_awl_eq_2, q_awl_eq_5, q_awl_eq_6, q_awl_eq_10, q_AE_thenL_eq_1, q_AE_thenL_eq_3, q_AE_inBlockL_eq_3, q_mapT_eq_1, q_mapT_eq_2, q_mapO_eq_1, q_endK_eq_2, q_endL_eq_1, q_endV_eq_1, q_resL_eq_1, q_resL_eq_2, q_resX_eq_1, q_one_eq_1, q_V_nrm_eq_1, q_K_nrm_eq_1, q_K_nrm_eq_2, q_V_owns_eq_1, q_K_owns_eq_2, q_V_toNew_eq_1, q_K_toNew_eq_1, q_C_norm_eq_3, q_C_norm_eq_4, q_C_norm_eq_5, q_C_normRow_eq_1, true_and, and_self, List.nodup_nil, Nat.reduceBEq, q_learn_eq_1, q_condK_eq_1, q_condB_eq_1, decide_true, norm_lst, normRows_ints, lookT_here, lookT_next, uf70r4, uf70b5, uf70b6]
      exact fin hS (by rw [← hj])
    · rw [if_neg (by simpa using h)] at hj
      simp only [h, c4, q_wpLs_eq_1, q_wpLs_eq_2, q_wpL_eq_1, q_exL_eq_1, q_exL_eq_11, q_look_eq_1, q_look_eq_2, q_insT_eq_1, q_awl_eq_1, q_awl_eq_2, q_awl_eq_6, q_AE_thenL_eq_1, q_AE_inBlockL_eq_1, q_putK_eq_1, q_vBin_eq_1, q_resV_eq_1, q_binV_eq_1, q_binInt_eq_3, q_cutInt_eq_1, true_and, if_true, Nat.reduceBEq, q_learn_eq_1, q_condK_eq_1, q_condB_eq_2, decide_false, lookT_here, lookT_next, uf70b6]
      exact Next.intro (i + 1) rfl rfl ⟨by omega, hj⟩ (by omega)
  · have c1 : ¬ (i : Int) < l.length := by omega
    simp only [c1, q_wpLs_eq_1, q_wpLs_eq_2, q_wpL_eq_1, q_exL_eq_1, q_exL_eq_11, q_look_eq_1, q_look_eq_2, q_lookO_eq_1, q_insT_eq_1, q_awl_eq_2, q_awl_eq_5, q_awl_eq_6, q_awl_eq_9, q_awl_eq_10, q_AE_thenL_eq_1, q_AE_thenL_eq_2, q_AE_inBlockL_eq_2, q_putK_eq_1, q_vBin_eq_1, q_resV_eq_1, q_binV_eq_1, q_binInt_eq_3, q_cutInt_eq_8, q_mapT_eq_1, q_mapT_eq_2, q_mapO_eq_1, q_endK_eq_2, q_endL_eq_1, q_endV_eq_1, q_resL_eq_1, q_resL_eq_2, q_resX_eq_1, q_one_eq_1, q_V_nrm_eq_1, q_K_nrm_eq_1, q_V_owns_eq_1, q_K_owns_eq_2, q_V_toNew_eq_1, q_K_toNew_eq_1, q_C_norm_eq_3, q_C_norm_eq_4, q_C_norm_eq_5, q_C_normRow_eq_1, true_and, if_true, and_self, Int.reduceNeg, List.nodup_nil, Nat.reduceBEq, q_learn_eq_1, q_condK_eq_1, q_condB_eq_2, decide_false, norm_lst, normRows_ints, lookT_here, lookT_next, uf70r1, uf70b2, uf70b13, uf70b14, uf70r15, uf70b16]
    rw [List.drop_eq_nil_of_le (by omega), ixP] at hj
    exact fin hS (by rw [← hj])
theorem s52 (l : List Int) : Spec Try.prog 52 [lst 1 (ints l), .k (.c (.fn 53 []))] (fun r => r = .bool (l.any fun v => decide (v ≥ 15))) := by
  refine Spec.of_awlS hf52 okf52 (by simp) fun S hS => ?_
  simp only [q_wpLs_eq_1, q_wpLs_eq_2, q_wpL_eq_1, q_exL_eq_1, q_exL_eq_28, q_look_eq_1, q_look_eq_2, q_insT_eq_1, q_awl_eq_2, q_awl_eq_5, q_AE_thenL_eq_1, q_initT_eq_1, q_initT_eq_2, q_List_map_cons, q_List_map_nil, Nat.reduceAdd, Nat.reduceBEq, Nat.zero_add, lookT_here, lookT_next, uf52, uf52r1, uf52b2, uf52r3, uf52b4]
  refine call_s (s70 l) ?_
  simp only [q_wpLs_eq_1, q_wpLs_eq_2, q_wpL_eq_1, q_exL_eq_1, q_exL_eq_11, q_look_eq_1, q_look_eq_2, q_lookO_eq_1, q_insT_eq_1, q_awl_eq_10, q_putK_eq_1, q_vBin_eq_1, q_resV_eq_1, q_binV_eq_1, q_binInt_eq_3, q_cutInt_eq_11, q_mapT_eq_1, q_mapT_eq_2, q_mapO_eq_1, q_endK_eq_2, q_endL_eq_1, q_endV_eq_1, q_resL_eq_1, q_resL_eq_2, q_resX_eq_1, q_one_eq_1, q_V_nrm_eq_1, q_K_nrm_eq_1, q_V_owns_eq_1, q_K_owns_eq_2, q_V_toNew_eq_1, q_K_toNew_eq_1, q_C_norm_eq_3, q_C_norm_eq_4, q_C_norm_eq_5, q_C_normRow_eq_1, true_and, if_true, and_self, List.nodup_nil, norm_lst, normRows_ints, lookT_here]
  refine fin hS ?_
  have := ixP_any (fun v => decide (v ≥ 15)) l 0 (by omega)
  generalize ixP (fun v => decide (v ≥ 15)) l 0 = n at *
  congr 3
  by_cases h : 0 ≤ n
  · have h2 := this.1 h
    rw [h2]; simp [h]
  · have h2 : (l.any fun v => decide (v ≥ 15)) = false := by
      cases hh : (l.any fun v => decide (v ≥ 15))
      · rfl
      · exact absurd (this.2 hh) h
    rw [h2]; simp; omega
theorem upto_succ (i : Nat) : upto (i + 1) = upto i ++ [(i : Int)] := by simp [upto, List.range_succ]
theorem upto_filter (p : Int → Bool) (i : Nat) : (upto (i + 1)).filter p = if p i = true then (upto i).filter p ++ [(i : Int)] else (upto i).filter p := by
  rw [upto_succ, List.filter_append]
  by_cases h : p i = true <;> simp [h]
theorem filter_le (p : Int → Bool) (i : Nat) : ((upto i).filter p).length ≤ i := Nat.le_trans (List.length_filter_le _ _) (by simp [upto])
def nlI (l : List Int) : Option Bool := if l.isEmpty = true then some true else some false
theorem nlI_snoc (l : List Int) (x : Int) : nlI (l ++ [x]) = some false := by simp [nlI]
theorem nlI_app (l : List Int) (r : List C) (rs : List (List C)) : nlApp (nlI l) (r :: rs) = some false := rfl
theorem s23 (o : Order) : Spec Try.prog 23 [.agg (encOrder o)] (fun r => r = .k (.newl 3 1 none (ints (gapsO o)))) := by
  refine Spec.of_awlS hf23 okf23 (by simp) fun S hS => ?_
  simp only [q_wpLs_eq_1, q_wpLs_eq_2, q_wpL_eq_1, q_exL_eq_1, q_exL_eq_2, q_exL_eq_5, q_look_eq_1, q_look_eq_2, q_insT_eq_1, q_insO_eq_1, q_awl_eq_2, q_awl_eq_5, q_awl_eq_7, q_AE_thenL_eq_1, q_initT_eq_1, q_initT_eq_2, q_boxK_eq_1, q_freeB_eq_1, q_freeT_eq_1, q_freeT_eq_2, q_freeO_eq_1, q_freeO_eq_2, q_V_noRef_eq_1, q_V_noRef_eq_2, q_K_noRef_eq_2, q_K_noRef_eq_3, q_O_noRef_eq_1, q_O_noRef_eq_2, true_and, and_self, bne_iff_ne, ne_eq, Bool.and_eq_true, Bool.and_true, Bool.or_true, Bool.false_or, Nat.reduceEqDiff, Nat.reduceBEq, Nat.zero_add, not_false_eq_true, lookT_here, r_all_noRef, uf23, uf23b17, uf23r18, uf23b19, uf23b20, uf23r21, uf23b22, uf23r23, uf23b24]
  rw [uf23l16]
  refine awl_loop (fun i : Nat => [(1, .k (.ptr 1 0)), (3, .k (.own 3)), (5, .int .i64 i)])
    (fun i => [(1, .var 25 ((encOrder o).map .c)), (3, .arr 3 1 (nlI ((upto i).filter fun q => !(hasR o.rules q))) (ints ((upto i).filter fun q => !(hasR o.rules q))))]) (fun i => i ≤ 22) (fun i => 22 - i) 0 rfl rfl (Nat.zero_le _) ?_
  intro i hi
  by_cases hlt : i < 22
  · have c1 : (i : Int) < 22 := by omega
    have c4 : IntKind.i64.wrap ((i : Int) + 1) = (i : Int) + 1 := wrap_in (by omega) (by omega)
    simp only [c1, c4, q_wpLs_eq_1, q_wpLs_eq_2, q_wpL_eq_1, q_exL_eq_1, q_exL_eq_4, q_exL_eq_8, q_exL_eq_9, q_exL_eq_11, q_exL_eq_17, q_exL_eq_21, q_exL_eq_28, q_look_eq_1, q_look_eq_2, q_insT_eq_1, q_insO_eq_1, q_awl_eq_1, q_awl_eq_2, q_awl_eq_5, q_awl_eq_6, q_awl_eq_7, q_AE_thenL_eq_1, q_putK_eq_1, q_vBin_eq_1, q_resV_eq_1, q_binV_eq_1, q_binInt_eq_3, q_cutInt_eq_8, q_vFaddr_eq_1, q_loadO_eq_1, q_isV_eq_1, q_vLoad_eq_1, q_V_cells_eq_1, q_splice_eq_1, q_isVarO_eq_1, q_stVarK_eq_1, q_storeK_eq_1, q_freeB_eq_1, q_freeT_eq_1, q_freeT_eq_2, q_freeO_eq_1, q_freeO_eq_2, q_V_noRef_eq_1, q_K_noRef_eq_1, q_K_noRef_eq_2, q_K_noRef_eq_3, q_O_noRef_eq_1, q_O_noRef_eq_2, q_List_map_cons, q_List_map_nil, q_List_take_zero, q_List_drop_succ_cons, q_List_drop_zero, q_List_nil_append, q_List_length_cons, q_List_length_nil, true_and, if_true, and_self, bne_iff_ne, ne_eq, Bool.and_eq_true, Bool.and_true, Bool.true_and, Bool.or_true, Bool.false_or, List.append_nil, Nat.reduceAdd, Nat.reduceEqDiff, Nat.reduceBEq, Nat.zero_add, Nat.le_refl, q_learn_eq_1, not_false_eq_true, q_condK_eq_1, q_condB_eq_1, decide_true, List.length_map, encOrder_len, lookT_here, lookT_next, lookO_here, lookO_next, f_or3, r_all_noRef, z_capP, z_caps_nil, z_caps_ptr, z_fnV, z_fnP2, z_pureCaps_tok, uf23r3, uf23r6, uf23b7, uf23r8, uf23b9, uf23b10, uf23b11, uf23b12, uf23b13, uf23r14, uf23b15]
    refine call_f 4 (by simp [look, lookT]) (by simp [V.hard, V.toks, Abs.K.toks, Cap.toks]) (by simp [lookO, plainO, Abs.K.toks]) ?_
    simp only [q_look_eq_1, q_pureRow_eq_1, q_pureRow_eq_2, q_mapT_eq_1, q_mapT_eq_2, q_mapO_eq_1, q_mapO_eq_2, q_delO_eq_1, q_delO_eq_2, q_Option_map_some, q_List_map_cons, q_List_map_nil, if_true, if_false, or_false, Nat.reduceEqDiff, Nat.reduceBEq, lookT_here, lookT_next, lookO_here, q_roK_1, q_fnkF_1, q_capR_1, z_V_k, z_K_c, z_K_own, z_K_ptr, z_K_fnk, z_Cap_tok, z_O_var, z_O_arr, z_frzT, z_frzO, z_pureCaps_nil, z_pureCaps_ro, r_map_frz]
    refine of_orF (call_s (s46 o.rules i) ?_ (ha := by simp [lendL, V.norm, capI, lst]))
    have hu := upto_filter (fun q => !(hasR o.rules q)) i
    have hle := filter_le (fun q => !(hasR o.rules q)) i
    cases h : hasR o.rules i
    · rw [if_pos (by rw [h]; rfl)] at hu
      simp only [h, c4, nlI_app, q_wpLs_eq_1, q_wpLs_eq_2, q_wpL_eq_1, q_exL_eq_1, q_exL_eq_7, q_exL_eq_8, q_exL_eq_11, q_exL_eq_15, q_exL_eq_33, q_look_eq_1, q_look_eq_2, q_insT_eq_1, q_insO_eq_1, q_awl_eq_2, q_awl_eq_6, q_AE_thenL_eq_1, q_AE_inBlockL_eq_1, q_putK_eq_1, q_vBin_eq_1, q_resV_eq_1, q_binV_eq_1, q_binInt_eq_3, q_cutInt_eq_1, q_vUn_eq_1, q_unV_eq_2, q_mapC_eq_1, q_vLoad_eq_4, q_ofRow_eq_1, q_pureRow_eq_1, q_pureRow_eq_2, q_nlApp_eq_2, q_vRow_eq_1, q_vLits_eq_1, q_vLits_eq_2, q_bsK_eq_1, q_srcO_eq_1, q_srcV_eq_2, q_appK_eq_1, q_appendK_eq_1, q_mapT_eq_1, q_mapT_eq_2, q_mapO_eq_1, q_mapO_eq_2, q_delO_eq_1, q_delO_eq_2, q_freeB_eq_1, q_freeT_eq_1, q_freeT_eq_2, q_freeO_eq_1, q_freeO_eq_2, q_V_noRef_eq_1, q_K_noRef_eq_1, q_K_noRef_eq_2, q_K_noRef_eq_3, q_O_noRef_eq_1, q_O_noRef_eq_2, q_V_scrub_eq_1, q_K_scrub_eq_1, q_K_scrub_eq_2, q_K_scrub_eq_5, q_O_scrub_eq_1, q_O_scrub_eq_2, q_Bool_not_false, q_Option_map_some, q_List_map_cons, q_List_map_nil, q_List_take_succ_cons, q_List_take_zero, q_List_drop_zero, q_List_foldl_cons, q_List_foldl_nil, q_List_replicate_succ, q_List_replicate_zero, q_List_set_cons_zero, q_List_length_cons, q_List_length_nil, true_and, if_true, if_false, Bool.false_eq_true, forall_eq, or_false, and_self, bne_iff_ne, ne_eq, Bool.and_eq_true, Bool.and_true, Bool.true_and, Bool.or_true, Bool.false_or, List.mem_cons, Nat.reduceEqDiff, Nat.reduceLeDiff, Nat.reduceLT, Nat.reduceBEq, Nat.zero_add, Nat.le_refl, q_learn_eq_1, not_false_eq_true, q_condK_eq_1, q_condB_eq_1, ints_len, lookT_here, lookT_next, lookO_here, lookO_next, List.not_mem_nil, r_all_noRef, r_map_scrub, uf23r4, uf23b5]
      refine ⟨by omega, by omega, Next.intro (i + 1) rfl ?_ (by omega) (by omega)⟩
      rw [hu, ints_snoc, nlI_snoc]; rfl
    · rw [if_neg (by rw [h]; simp)] at hu
      simp only [h, c4, q_wpLs_eq_1, q_wpLs_eq_2, q_wpL_eq_1, q_exL_eq_1, q_exL_eq_11, q_exL_eq_15, q_look_eq_1, q_look_eq_2, q_insT_eq_1, q_awl_eq_1, q_awl_eq_2, q_awl_eq_6, q_AE_thenL_eq_1, q_AE_inBlockL_eq_1, q_putK_eq_1, q_vBin_eq_1, q_resV_eq_1, q_binV_eq_1, q_binInt_eq_3, q_cutInt_eq_1, q_vUn_eq_1, q_unV_eq_2, q_mapC_eq_1, q_Bool_not_true, true_and, if_true, Nat.reduceBEq, q_learn_eq_1, q_condK_eq_1, q_condB_eq_2, lookT_here, lookT_next, uf23r4, uf23b5]
      refine Next.intro (i + 1) rfl ?_ (by omega) (by omega)
      rw [hu]; rfl
  · have c1 : ¬ (i : Int) < 22 := by omega
    obtain rfl : i = 22 := by omega
    simp only [c1, q_wpLs_eq_1, q_wpLs_eq_2, q_wpL_eq_1, q_exL_eq_1, q_exL_eq_11, q_look_eq_1, q_look_eq_2, q_insT_eq_1, q_awl_eq_2, q_awl_eq_5, q_awl_eq_6, q_awl_eq_9, q_awl_eq_10, q_AE_thenL_eq_1, q_AE_thenL_eq_2, q_AE_inBlockL_eq_2, q_putK_eq_1, q_vBin_eq_1, q_resV_eq_1, q_binV_eq_1, q_binInt_eq_3, q_cutInt_eq_8, q_isArrO_eq_1, q_mapT_eq_1, q_mapT_eq_2, q_mapO_eq_1, q_mapO_eq_2, q_endK_eq_2, q_endL_eq_1, q_endV_eq_1, q_resL_eq_1, q_resL_eq_2, q_resX_eq_1, q_one_eq_1, q_V_nrm_eq_1, q_K_nrm_eq_1, q_K_nrm_eq_3, q_O_nrm_eq_1, q_O_nrm_eq_2, q_V_owns_eq_1, q_K_owns_eq_1, q_V_toNew_eq_1, q_K_toNew_eq_2, q_C_norm_eq_4, q_C_norm_eq_5, true_and, if_true, and_self, List.nodup_nil, List.nodup_cons, Nat.reduceBEq, q_learn_eq_1, not_false_eq_true, q_condK_eq_1, q_condB_eq_2, decide_false, normRows_ints, encOrder_norm, lookT_here, lookT_next, Int.reduceLT, Int.cast_ofNat_Int, lookO_here, lookO_next, List.not_mem_nil, r_map_nrm, uf23r1, uf23b2, uf23b12, uf23b13, uf23r14, uf23b15]
    exact hS
end Go.Abs


set_option maxRecDepth 100000
set_option maxHeartbeats 4000000
namespace Go.Abs
open Go.Proofs
theorem s35' (t : Term) : Spec Try.prog 35 [.agg (encT t)] (fun r => r = .k (.newl 3 1 none (ints (varsT t)))) := by
  have := s35 t
  rw [vars_eq] at this; exact this
theorem vars_le (t : Term) : (varsT t).length ≤ 20 := by
  unfold varsT
  split
  · simp
  · exact filter_le _ 20
theorem nlI_append (l m : List Int) : nlApp (nlI l) (ints m) = nlI (l ++ m) := by
  cases m with
  | nil => simp [ints, nlApp]
  | cons a m => simp [ints, nlApp, nlI]
theorem take_flat {l : List Rule} {i : Nat} (h : i < l.length) (g : Rule → List Int) : (l.take (i + 1)).flatMap g = (l.take i).flatMap g ++ g l[i] := by
  rw [List.take_succ_eq_append_getElem h, List.flatMap_append]; simp
theorem flat_le (l : List Rule) : ∀ i, ((l.take i).flatMap fun r => varsT r.term).length ≤ 20 * i := by
  intro i
  induction i with
  | zero => simp
  | succ i ih =>
    by_cases h : i < l.length
    · rw [take_flat h]
      have := vars_le l[i].term
      simp only [List.length_append]; omega
    · rw [List.take_of_length_le (by omega)]
      rw [List.take_of_length_le (by omega)] at ih; omega
theorem s25 (o : Order) (h60 : o.rules.length ≤ 60) : Spec Try.prog 25 [.agg (encOrder o)] (fun r => r = .k (.newl 3 1 none (ints (usesO o)))) := by
  refine Spec.of_awlS hf25 okf25 (by simp) fun S hS => ?_
  rw [← uses_eq] at hS
  simp only [q_wpLs_eq_1, q_wpLs_eq_2, q_wpL_eq_1, q_exL_eq_1, q_exL_eq_2, q_exL_eq_5, q_exL_eq_8, q_exL_eq_21, q_exL_eq_30, q_look_eq_1, q_look_eq_2, q_insT_eq_1, q_insO_eq_1, q_awl_eq_2, q_awl_eq_5, q_awl_eq_7, q_AE_thenL_eq_1, q_initT_eq_1, q_initT_eq_2, q_putK_eq_1, q_vFaddr_eq_1, q_loadO_eq_1, q_isV_eq_1, q_vLoad_eq_1, q_isVarO_eq_1, q_boxK_eq_1, q_freeB_eq_1, q_freeT_eq_1, q_freeT_eq_2, q_freeO_eq_1, q_freeO_eq_2, q_V_noRef_eq_1, q_V_noRef_eq_2, q_K_noRef_eq_2, q_K_noRef_eq_3, q_O_noRef_eq_1, q_O_noRef_eq_2, true_and, and_self, bne_iff_ne, ne_eq, Bool.and_eq_true, Bool.and_true, Bool.or_true, Bool.false_or, Nat.reduceAdd, Nat.reduceEqDiff, Nat.reduceBEq, Nat.zero_add, Nat.le_refl, not_false_eq_true, r_vLen_lst, List.length_map, encOrder_len, lookT_here, lookT_next, lookO_here, lookO_next, f_or3, r_all_noRef, uf25, uf25b16, uf25r17, uf25b18, uf25b19, uf25r20, uf25b21, uf25r22, uf25b23]
  rw [uf25l15]
  refine awl_loop (fun i : Nat => [(3, .k (.own 3)), (7, lst 4 (o.rules.map encRule)), (8, .int .i64 o.rules.length), (9, .int .i64 i)])
    (fun i => [(3, .arr 3 1 (nlI ((o.rules.take i).flatMap fun r => varsT r.term)) (ints ((o.rules.take i).flatMap fun r => varsT r.term)))]) (fun i => i ≤ o.rules.length) (fun i => o.rules.length - i) 0 rfl rfl (Nat.zero_le _) ?_
  intro i hi
  by_cases hlt : i < o.rules.length
  · have c1 : (i : Int) < o.rules.length := by omega
    have c4 : IntKind.i64.wrap ((i : Int) + 1) = (i : Int) + 1 := wrap_in (by omega) (by omega)
    have hle := flat_le o.rules i
    have hv := vars_le o.rules[i].term
    simp only [c1, map_at hlt, q_wpLs_eq_1, q_wpLs_eq_2, q_wpL_eq_1, q_exL_eq_1, q_exL_eq_4, q_exL_eq_8, q_exL_eq_9, q_exL_eq_11, q_exL_eq_21, q_exL_eq_23, q_exL_eq_28, q_look_eq_1, q_insT_eq_1, q_insO_eq_1, q_awl_eq_1, q_awl_eq_2, q_awl_eq_5, q_awl_eq_6, q_awl_eq_7, q_AE_thenL_eq_1, q_AE_inBlockL_eq_1, q_putK_eq_1, q_vBin_eq_1, q_resV_eq_1, q_binV_eq_1, q_binInt_eq_3, q_cutInt_eq_8, q_vFaddr_eq_1, q_partV_eq_1, q_loadO_eq_1, q_isV_eq_1, q_vLoad_eq_1, q_vLoad_eq_2, q_V_cells_eq_2, q_splice_eq_1, q_isVarO_eq_1, q_stVarK_eq_1, q_storeK_eq_1, q_freeB_eq_1, q_freeT_eq_1, q_freeT_eq_2, q_freeO_eq_1, q_freeO_eq_2, q_V_noRef_eq_1, q_V_noRef_eq_2, q_K_noRef_eq_1, q_K_noRef_eq_2, q_K_noRef_eq_5, q_O_noRef_eq_2, q_List_map_cons, q_List_map_nil, q_List_take_zero, q_List_drop_succ_cons, q_List_drop_zero, q_List_nil_append, q_List_length_cons, q_List_length_nil, true_and, if_true, and_self, bne_iff_ne, ne_eq, Bool.and_true, Bool.true_and, Bool.or_true, Bool.false_or, List.append_nil, Nat.reduceAdd, Nat.reduceEqDiff, Nat.reduceBEq, Nat.zero_add, Int.toNat_natCast, Nat.le_refl, Int.natCast_nonneg, q_learn_eq_1, not_false_eq_true, q_condK_eq_1, q_condB_eq_1, decide_true, r_vIaddr_lst, List.length_map, encRule_len, lookT_here, lookT_next, lookO_here, f_rule1, uf25r5, uf25r6, uf25r7, uf25b8, uf25b9, uf25b10, uf25b11, uf25b12, uf25r13, uf25b14]
    refine call_l (s35' o.rules[i].term) ?_
    simp only [c4, q_wpLs_eq_1, q_wpLs_eq_2, q_wpL_eq_1, q_exL_eq_1, q_exL_eq_11, q_exL_eq_33, q_look_eq_1, q_look_eq_2, q_insT_eq_1, q_insO_eq_1, q_awl_eq_2, q_AE_thenL_eq_1, q_putK_eq_1, q_vBin_eq_1, q_resV_eq_1, q_binV_eq_1, q_binInt_eq_3, q_cutInt_eq_1, q_srcO_eq_1, q_srcV_eq_2, q_appK_eq_1, q_appendK_eq_1, q_mapT_eq_1, q_mapT_eq_2, q_mapO_eq_1, q_mapO_eq_2, q_delO_eq_1, q_delO_eq_2, q_V_scrub_eq_1, q_V_scrub_eq_3, q_K_scrub_eq_1, q_K_scrub_eq_2, q_K_scrub_eq_5, q_O_scrub_eq_1, q_O_scrub_eq_2, q_List_map_cons, q_List_map_nil, true_and, if_true, if_false, Nat.reduceEqDiff, Nat.reduceBEq, ints_len, lookT_here, lookT_next, lookO_here, lookO_next, r_map_scrub]
    refine ⟨by omega, by omega, Next.intro (i + 1) rfl ?_ (by omega) (by omega)⟩
    rw [take_flat hlt, ← nlI_append, ← ints_append]; rfl
  · have c1 : ¬ (i : Int) < o.rules.length := by omega
    have hle := flat_le o.rules i
    obtain rfl : i = o.rules.length := by omega
    rw [List.take_length] at hle
    simp only [c1, List.take_length, q_wpLs_eq_1, q_wpLs_eq_2, q_wpL_eq_1, q_exL_eq_1, q_exL_eq_11, q_exL_eq_28, q_look_eq_1, q_insT_eq_1, q_awl_eq_2, q_awl_eq_5, q_awl_eq_6, q_awl_eq_9, q_AE_thenL_eq_1, q_AE_thenL_eq_2, q_AE_inBlockL_eq_2, q_putK_eq_1, q_vBin_eq_1, q_resV_eq_1, q_binV_eq_1, q_binInt_eq_3, q_cutInt_eq_8, q_List_map_cons, q_List_map_nil, true_and, if_true, Nat.reduceBEq, q_learn_eq_1, q_condK_eq_1, q_condB_eq_2, decide_false, lookT_here, lookT_next, uf25r3, uf25b4, uf25b11, uf25b12, uf25r13, uf25b14]
    refine call_sort (o.rules.flatMap fun r => varsT r.term) (s49 (by omega)) rfl ?_
    simp only [q_wpLs_eq_1, q_wpLs_eq_2, q_wpL_eq_1, q_exL_eq_1, q_exL_eq_28, q_look_eq_1, q_insT_eq_1, q_insO_eq_1, q_awl_eq_2, q_awl_eq_5, q_AE_thenL_eq_1, q_List_map_cons, q_List_map_nil, Nat.reduceBEq, lookT_here, lookT_next, uf25r1, uf25b2]
    refine call_compact (sortI (o.rules.flatMap fun r => varsT r.term)) s50 rfl ?_
    simp only [intRows_norm, q_wpLs_eq_1, q_wpLs_eq_2, q_wpL_eq_1, q_exL_eq_1, q_look_eq_1, q_insT_eq_1, q_insO_eq_1, q_awl_eq_10, q_isArrO_eq_1, q_mapT_eq_1, q_mapT_eq_2, q_mapO_eq_1, q_mapO_eq_2, q_V_scrub_eq_1, q_V_scrub_eq_5, q_K_scrub_eq_1, q_K_scrub_eq_5, q_O_scrub_eq_2, q_endK_eq_2, q_endL_eq_1, q_endV_eq_1, q_resL_eq_1, q_resL_eq_2, q_resX_eq_1, q_one_eq_1, q_V_nrm_eq_1, q_V_nrm_eq_6, q_K_nrm_eq_1, q_K_nrm_eq_3, q_O_nrm_eq_2, q_V_owns_eq_1, q_K_owns_eq_1, q_V_toNew_eq_1, q_K_toNew_eq_2, q_C_norm_eq_4, q_C_norm_eq_5, true_and, if_true, and_self, List.nodup_nil, List.nodup_cons, not_false_eq_true, norm_lst, normRows_R, normRows_ints, lookT_here, lookO_here, List.not_mem_nil]
    exact hS
theorem filt_take {l : List Rule} {i : Nat} (h : i < l.length) : ((l.take (i + 1)).filter blindR).map (·.ask) = if blindR l[i] = true then ((l.take i).filter blindR).map (·.ask) ++ [l[i].ask] else ((l.take i).filter blindR).map (·.ask) := by
  rw [List.take_succ_eq_append_getElem h, List.filter_append, List.map_append]
  by_cases hb : blindR l[i] = true <;> simp [hb]
theorem filt_le (l : List Rule) (i : Nat) : (((l.take i).filter blindR).map (·.ask)).length ≤ i := by
  rw [List.length_map]
  exact Nat.le_trans (List.length_filter_le _ _) (by simp; omega)
theorem s27 (o : Order) (h60 : o.rules.length ≤ 60) : Spec Try.prog 27 [.agg (encOrder o)] (fun r => r = .k (.newl 3 1 none (ints (blindO o)))) := by
  refine Spec.of_awlS hf27 okf27 (by simp) fun S hS => ?_
  rw [← blind_eq] at hS
  simp only [q_wpLs_eq_1, q_wpLs_eq_2, q_wpL_eq_1, q_exL_eq_1, q_exL_eq_2, q_exL_eq_5, q_exL_eq_8, q_exL_eq_21, q_exL_eq_30, q_look_eq_1, q_look_eq_2, q_insT_eq_1, q_insO_eq_1, q_awl_eq_2, q_awl_eq_5, q_awl_eq_7, q_AE_thenL_eq_1, q_initT_eq_1, q_initT_eq_2, q_putK_eq_1, q_vFaddr_eq_1, q_loadO_eq_1, q_isV_eq_1, q_vLoad_eq_1, q_isVarO_eq_1, q_boxK_eq_1, q_freeB_eq_1, q_freeT_eq_1, q_freeT_eq_2, q_freeO_eq_1, q_freeO_eq_2, q_V_noRef_eq_1, q_V_noRef_eq_2, q_K_noRef_eq_2, q_K_noRef_eq_3, q_O_noRef_eq_1, q_O_noRef_eq_2, true_and, and_self, bne_iff_ne, ne_eq, Bool.and_eq_true, Bool.and_true, Bool.or_true, Bool.false_or, Nat.reduceAdd, Nat.reduceEqDiff, Nat.reduceBEq, Nat.zero_add, Nat.le_refl, not_false_eq_true, r_vLen_lst, List.length_map, encOrder_len, lookT_here, lookT_next, lookO_here, lookO_next, f_or3, r_all_noRef, uf27, uf27b21, uf27r22, uf27b23, uf27b24, uf27r25, uf27b26, uf27r27, uf27b28]
  rw [uf27l20]
  refine awl_loop (fun i : Nat => [(3, .k (.own 3)), (8, lst 4 (o.rules.map encRule)), (9, .int .i64 o.rules.length), (10, .int .i64 i)])
    (fun i => [(3, .arr 3 1 (nlI (((o.rules.take i).filter blindR).map (·.ask))) (ints (((o.rules.take i).filter blindR).map (·.ask))))]) (fun i => i ≤ o.rules.length) (fun i => o.rules.length - i) 0 rfl rfl (Nat.zero_le _) ?_
  intro i hi
  by_cases hlt : i < o.rules.length
  · have c1 : (i : Int) < o.rules.length := by omega
    have c4 : IntKind.i64.wrap ((i : Int) + 1) = (i : Int) + 1 := wrap_in (by omega) (by omega)
    have hle := filt_le o.rules i
    rw [List.length_map] at hle
    have ht := filt_take hlt
    have hp : ∀ b, (varsT o.rules[i].term).any (fun v => decide (v ≥ 15)) = b → plain o.rules[i].ask = true → blindR o.rules[i] = b := by
      intro b h1 h2; rw [blindR, h2, h1]; rfl
    by_cases hq : o.rules[i].ask = 0 ∨ o.rules[i].ask = 6 ∨ o.rules[i].ask = 7
    · have hpl : plain o.rules[i].ask = true := by simpa [plain] using hq
      rcases hq with hq | hq | hq
      all_goals
        simp only [c1, map_at hlt, hq, q_wpLs_eq_1, q_wpLs_eq_2, q_wpL_eq_1, q_putDL_eq_1, q_AOp_dst_eq_8, q_AOp_dst_eq_10, q_AOp_dst_eq_20, q_AOp_dst_eq_32, q_exL_eq_1, q_exL_eq_3, q_exL_eq_4, q_exL_eq_8, q_exL_eq_9, q_exL_eq_11, q_exL_eq_21, q_exL_eq_23, q_exL_eq_28, q_look_eq_1, q_look_eq_2, q_insT_eq_1, q_insO_eq_1, q_awl_eq_1, q_awl_eq_2, q_awl_eq_5, q_awl_eq_6, q_awl_eq_7, q_AE_thenL_eq_1, q_putK_eq_1, q_vBin_eq_1, q_resV_eq_1, q_binV_eq_1, q_binInt_eq_3, q_cutInt_eq_6, q_cutInt_eq_8, q_vFaddr_eq_1, q_partV_eq_1, q_loadO_eq_1, q_isV_eq_1, q_vLoad_eq_1, q_vLoad_eq_2, q_vPick_eq_1, q_vPick_eq_2, q_V_cells_eq_2, q_splice_eq_1, q_isVarO_eq_1, q_stVarK_eq_1, q_storeK_eq_1, q_freeB_eq_1, q_freeT_eq_1, q_freeT_eq_2, q_freeO_eq_1, q_freeO_eq_2, q_V_noRef_eq_1, q_V_noRef_eq_2, q_K_noRef_eq_1, q_K_noRef_eq_2, q_K_noRef_eq_5, q_O_noRef_eq_2, q_Bool_not_true, q_Bool_not_false, q_List_map_cons, q_List_map_nil, q_List_take_zero, q_List_drop_succ_cons, q_List_drop_zero, q_List_nil_append, q_List_length_cons, q_List_length_nil, true_and, if_true, if_false, Bool.false_eq_true, and_self, bne_iff_ne, ne_eq, Bool.and_true, Bool.true_and, Bool.or_true, Bool.false_or, BEq.rfl, List.append_nil, Nat.reduceAdd, Nat.reduceEqDiff, Nat.reduceLeDiff, Nat.reduceBEq, Nat.zero_add, Nat.add_zero, Int.toNat_natCast, Nat.le_refl, Int.natCast_nonneg, q_learn_eq_1, not_false_eq_true, q_guardP_eq_1, q_guardP_eq_2, q_condK_eq_1, q_condB_eq_1, q_condB_eq_2, q_exK_eq_1, decide_true, r_vIaddr_lst, List.length_map, encRule_len, lookT_here, lookT_next, Int.reduceBEq, lookO_here, f_rule0, f_rule1, uf27r5, uf27r8, uf27b9, uf27r10, uf27b11, uf27r12, uf27b13, uf27b14, uf27b15, uf27b16, uf27b17, uf27r18, uf27b19]
        refine call_l (s35' o.rules[i].term) ?_
        simp only [q_wpLs_eq_2, q_wpL_eq_1, q_AOp_dst_eq_32, q_exL_eq_28, q_look_eq_1, q_look_eq_2, q_insT_eq_1, q_insO_eq_1, q_Bool_not_true, q_List_map_cons, q_List_map_nil, Nat.reduceBEq, q_guardP_eq_1, q_condB_eq_1, q_exK_eq_1, lookT_here, lookT_next]
        refine call_s (s52 (varsT o.rules[i].term)) ?_
        cases hb : (varsT o.rules[i].term).any (fun v => decide (v ≥ 15))
        · simp only [hb, c4, q_wpLs_eq_1, q_wpLs_eq_2, q_wpL_eq_1, q_exL_eq_1, q_exL_eq_3, q_exL_eq_11, q_look_eq_1, q_look_eq_2, q_insT_eq_1, q_awl_eq_1, q_awl_eq_2, q_awl_eq_6, q_AE_thenL_eq_1, q_AE_inBlockL_eq_1, q_putK_eq_1, q_vBin_eq_1, q_resV_eq_1, q_binV_eq_1, q_binInt_eq_3, q_cutInt_eq_1, q_vPick_eq_1, true_and, if_true, Nat.reduceBEq, q_learn_eq_1, q_condK_eq_1, q_condB_eq_2, lookT_here, lookT_next, uf27r6, uf27b7]
          refine Next.intro (i + 1) rfl ?_ (by omega) (by omega)
          rw [ht, if_neg (by rw [hp false hb hpl]; simp)]; rfl
        · simp only [hb, c4, hq, nlI_app, q_wpLs_eq_1, q_wpLs_eq_2, q_wpL_eq_1, q_exL_eq_1, q_exL_eq_3, q_exL_eq_7, q_exL_eq_8, q_exL_eq_11, q_exL_eq_21, q_exL_eq_33, q_look_eq_1, q_look_eq_2, q_insT_eq_1, q_insO_eq_1, q_awl_eq_2, q_awl_eq_6, q_AE_thenL_eq_1, q_AE_inBlockL_eq_1, q_putK_eq_1, q_vBin_eq_1, q_resV_eq_1, q_binV_eq_1, q_binInt_eq_3, q_cutInt_eq_1, q_vFaddr_eq_1, q_loadO_eq_1, q_isV_eq_1, q_vLoad_eq_1, q_vPick_eq_1, q_isVarO_eq_1, q_nlApp_eq_2, q_vRow_eq_1, q_vLits_eq_1, q_vLits_eq_2, q_bsK_eq_1, q_srcO_eq_1, q_srcV_eq_2, q_appK_eq_1, q_appendK_eq_1, q_mapT_eq_1, q_mapT_eq_2, q_mapO_eq_1, q_mapO_eq_2, q_delO_eq_1, q_delO_eq_2, q_freeB_eq_1, q_freeT_eq_1, q_freeT_eq_2, q_freeO_eq_1, q_freeO_eq_2, q_V_noRef_eq_1, q_V_noRef_eq_2, q_V_noRef_eq_5, q_K_noRef_eq_1, q_K_noRef_eq_2, q_K_noRef_eq_3, q_K_noRef_eq_5, q_O_noRef_eq_1, q_O_noRef_eq_2, q_V_scrub_eq_1, q_V_scrub_eq_3, q_V_scrub_eq_4, q_K_scrub_eq_1, q_K_scrub_eq_2, q_K_scrub_eq_5, q_O_scrub_eq_1, q_O_scrub_eq_2, q_List_map_cons, q_List_map_nil, q_List_drop_zero, q_List_foldl_cons, q_List_foldl_nil, q_List_replicate_succ, q_List_replicate_zero, q_List_set_cons_zero, q_List_length_cons, q_List_length_nil, q_List_all_cons, q_List_all_nil, true_and, if_true, if_false, forall_eq, or_false, and_self, bne_iff_ne, ne_eq, Bool.and_eq_true, Bool.and_true, Bool.true_and, Bool.or_true, Bool.false_or, List.mem_cons, Nat.reduceEqDiff, Nat.reduceLeDiff, Nat.reduceLT, Nat.reduceBEq, Nat.zero_add, Nat.add_zero, q_learn_eq_1, not_false_eq_true, q_condK_eq_1, q_condB_eq_1, ints_len, List.length_map, encRule_len, lookT_here, lookT_next, lookO_here, lookO_next, List.not_mem_nil, f_rule0, r_all_noRef, r_map_scrub, uf27r6, uf27b7]
          refine ⟨by omega, by omega, Next.intro (i + 1) rfl ?_ (by omega) (by omega)⟩
          rw [ht, if_pos (hp true hb hpl), ints_snoc, nlI_snoc, hq]; rfl
    · have h1 : ¬ o.rules[i].ask = 0 := fun h => hq (.inl h)
      have h2 : ¬ o.rules[i].ask = 6 := fun h => hq (.inr (.inl h))
      have h3 : ¬ o.rules[i].ask = 7 := fun h => hq (.inr (.inr h))
      have hb : blindR o.rules[i] = false := by
        have : plain o.rules[i].ask = false := by simp [plain, h1, h2, h3]
        rw [blindR, this]; rfl
      simp only [c1, map_at hlt, h1, h2, h3, c4, q_wpLs_eq_1, q_wpLs_eq_2, q_wpL_eq_1, q_putDL_eq_1, q_AOp_dst_eq_8, q_AOp_dst_eq_10, q_AOp_dst_eq_20, q_AOp_dst_eq_32, q_exL_eq_1, q_exL_eq_3, q_exL_eq_4, q_exL_eq_8, q_exL_eq_9, q_exL_eq_11, q_exL_eq_21, q_exL_eq_23, q_exL_eq_28, q_look_eq_1, q_look_eq_2, q_insT_eq_1, q_insO_eq_1, q_awl_eq_1, q_awl_eq_2, q_awl_eq_5, q_awl_eq_6, q_awl_eq_7, q_AE_thenL_eq_1, q_AE_inBlockL_eq_1, q_putK_eq_1, q_vBin_eq_1, q_resV_eq_1, q_binV_eq_1, q_binInt_eq_3, q_cutInt_eq_1, q_cutInt_eq_6, q_cutInt_eq_8, q_vFaddr_eq_1, q_partV_eq_1, q_loadO_eq_1, q_isV_eq_1, q_vLoad_eq_1, q_vLoad_eq_2, q_vPick_eq_1, q_vPick_eq_2, q_vPick_eq_3, q_V_cells_eq_2, q_splice_eq_1, q_isVarO_eq_1, q_stVarK_eq_1, q_storeK_eq_1, q_freeB_eq_1, q_freeT_eq_1, q_freeT_eq_2, q_freeO_eq_1, q_freeO_eq_2, q_V_noRef_eq_1, q_V_noRef_eq_2, q_K_noRef_eq_1, q_K_noRef_eq_2, q_K_noRef_eq_5, q_O_noRef_eq_2, q_Bool_not_true, q_Bool_not_false, q_List_map_cons, q_List_map_nil, q_List_take_zero, q_List_drop_succ_cons, q_List_drop_zero, q_List_nil_append, q_List_length_cons, q_List_length_nil, true_and, if_true, if_false, Bool.false_eq_true, false_implies, forall_const, and_self, bne_iff_ne, ne_eq, Bool.and_true, Bool.true_and, Bool.or_true, Bool.false_or, List.append_nil, Nat.reduceAdd, Nat.reduceEqDiff, Nat.reduceLeDiff, Nat.reduceBEq, Nat.zero_add, Nat.add_zero, Int.toNat_natCast, Nat.le_refl, Int.natCast_nonneg, q_learn_eq_1, not_false_eq_true, q_guardP_eq_1, q_guardP_eq_2, q_condK_eq_1, q_condB_eq_1, q_condB_eq_2, q_exK_eq_1, condB_beq, decide_true, r_vIaddr_lst, List.length_map, encRule_len, lookT_here, lookT_next, lookO_here, f_rule0, f_rule1, uf27r5, uf27r6, uf27b7, uf27r8, uf27b9, uf27r10, uf27b11, uf27r12, uf27b13, uf27b14, uf27b15, uf27b16, uf27b17, uf27r18, uf27b19]
      refine Next.intro (i + 1) rfl ?_ (by omega) (by omega)
      rw [ht, if_neg (by simp [hb])]; rfl
  · have c1 : ¬ (i : Int) < o.rules.length := by omega
    have hle := filt_le o.rules i
    obtain rfl : i = o.rules.length := by omega
    rw [List.take_length] at hle
    simp only [c1, List.take_length, q_wpLs_eq_1, q_wpLs_eq_2, q_wpL_eq_1, q_exL_eq_1, q_exL_eq_11, q_exL_eq_28, q_look_eq_1, q_insT_eq_1, q_awl_eq_2, q_awl_eq_5, q_awl_eq_6, q_awl_eq_9, q_AE_thenL_eq_1, q_AE_thenL_eq_2, q_AE_inBlockL_eq_2, q_putK_eq_1, q_vBin_eq_1, q_resV_eq_1, q_binV_eq_1, q_binInt_eq_3, q_cutInt_eq_8, q_List_map_cons, q_List_map_nil, true_and, if_true, Nat.reduceBEq, q_learn_eq_1, q_condK_eq_1, q_condB_eq_2, decide_false, lookT_here, lookT_next, uf27r3, uf27b4, uf27b16, uf27b17, uf27r18, uf27b19]
    refine call_sort ((o.rules.filter blindR).map (·.ask)) (s49 (by omega)) rfl ?_
    simp only [q_wpLs_eq_1, q_wpLs_eq_2, q_wpL_eq_1, q_exL_eq_1, q_exL_eq_28, q_look_eq_1, q_insT_eq_1, q_insO_eq_1, q_awl_eq_2, q_awl_eq_5, q_AE_thenL_eq_1, q_List_map_cons, q_List_map_nil, Nat.reduceBEq, lookT_here, lookT_next, uf27r1, uf27b2]
    refine call_compact (sortI ((o.rules.filter blindR).map (·.ask))) s50 rfl ?_
    simp only [intRows_norm, q_wpLs_eq_1, q_wpLs_eq_2, q_wpL_eq_1, q_exL_eq_1, q_look_eq_1, q_insT_eq_1, q_insO_eq_1, q_awl_eq_10, q_isArrO_eq_1, q_mapT_eq_1, q_mapT_eq_2, q_mapO_eq_1, q_mapO_eq_2, q_V_scrub_eq_1, q_V_scrub_eq_5, q_K_scrub_eq_1, q_K_scrub_eq_5, q_O_scrub_eq_2, q_endK_eq_2, q_endL_eq_1, q_endV_eq_1, q_resL_eq_1, q_resL_eq_2, q_resX_eq_1, q_one_eq_1, q_V_nrm_eq_1, q_V_nrm_eq_6, q_K_nrm_eq_1, q_K_nrm_eq_3, q_O_nrm_eq_2, q_V_owns_eq_1, q_K_owns_eq_1, q_V_toNew_eq_1, q_K_toNew_eq_2, q_C_norm_eq_4, q_C_norm_eq_5, true_and, if_true, and_self, List.nodup_nil, List.nodup_cons, not_false_eq_true, norm_lst, normRows_R, normRows_ints, lookT_here, lookO_here, List.not_mem_nil]
    exact hS
end Go.Abs


set_option maxRecDepth 100000
namespace Go.Abs
open Go.Proofs
theorem s22 (a b : List Int) : Spec Try.prog 22 [lst 1 (ints a), lst 1 (ints b)] (fun r => r = .bool (decide (a = b))) := by
  refine Spec.of_len hf22 fun hlen => ?_
  have hla : a.length ≤ 9223372036854775807 := by have := hlen _ (List.mem_cons_self) (lstC 1 (ints a)) (by simp [lst, V.topC]) _ _ _ rfl; simpa [ints] using this
  clear hlen
  refine Spec.of_awl hf22 okf22 (by simp) ?_
  simp only [lst, lstC, ints_len, q_wpLs_eq_1, q_wpLs_eq_2, q_wpL_eq_1, q_exL_eq_1, q_exL_eq_11, q_exL_eq_30, q_look_eq_1, q_look_eq_2, q_lookO_eq_1, q_insT_eq_1, q_awl_eq_1, q_awl_eq_2, q_awl_eq_5, q_awl_eq_6, q_awl_eq_7, q_awl_eq_10, q_AE_thenL_eq_1, q_AE_thenL_eq_3, q_initT_eq_1, q_initT_eq_2, q_putK_eq_1, q_vBin_eq_1, q_resV_eq_1, q_binV_eq_1, q_binInt_eq_3, q_cutInt_eq_7, q_vLen_eq_1, q_mapT_eq_1, q_mapT_eq_2, q_mapO_eq_1, q_endK_eq_2, q_endL_eq_1, q_endV_eq_1, q_resL_eq_1, q_resL_eq_2, q_resX_eq_1, q_one_eq_1, q_V_nrm_eq_1, q_K_nrm_eq_1, q_V_owns_eq_1, q_K_owns_eq_2, q_V_toNew_eq_1, q_K_toNew_eq_1, q_C_norm_eq_1, q_C_norm_eq_4, q_C_norm_eq_5, true_and, if_true, and_self, List.nodup_nil, Nat.reduceAdd, Nat.reduceBEq, Nat.zero_add, q_learn_eq_1, q_condK_eq_1, condB_bne, normRows_ints, ints_len, lookT_here, lookT_next, uf22, uf22b16, uf22r17, uf22b18, uf22b19, uf22r20, uf22b21, uf22b22, uf22r23, uf22b24, uf22b25, uf22r26, uf22b27]
  refine ⟨fun h => ?_, fun h => ?_⟩
  · have : a ≠ b := by rintro rfl; exact h rfl
    simp [this]
  · rw [uf22l15]
    have h : a.length = b.length := by omega
    refine awl_loop (fun i : Nat => [(0, lst 1 (ints a)), (1, lst 1 (ints b)), (5, .int .i64 i)]) (fun _ => []) (fun i => i ≤ a.length ∧ ∀ j < i, a[j]? = b[j]?) (fun i => a.length - i) 0 rfl rfl ⟨Nat.zero_le _, by simp⟩ ?_
    rintro i ⟨hi, hj⟩
    by_cases hlt : i < a.length
    · have hlt2 : i < b.length := by omega
      have c1 : (i : Int) < a.length := by omega
      have c2 : (i : Int) < b.length := by omega
      have hw : IntKind.i64.wrap ((i : Int) + 1) = (i : Int) + 1 := wrap_in (by omega) (by omega)
      simp only [lst, lstC, ints_len, ints_isEmpty, ints_at hlt, ints_at hlt2, sz_of hlt, sz_of hlt2, c1, c2, hw, not_true_eq_false, q_wpLs_eq_1, q_wpLs_eq_2, q_wpLQs_eq_1, q_wpLQs_eq_2, q_wpL_eq_1, q_wpLQ_eq_1, q_exL_eq_1, q_exL_eq_11, q_exL_eq_30, q_exLQ_eq_1, q_exLQ_eq_9, q_exLQ_eq_12, q_exLQ_eq_24, q_look_eq_1, q_look_eq_2, q_lookO_eq_1, q_insT_eq_1, q_awl_eq_1, q_awl_eq_2, q_awl_eq_3, q_awl_eq_5, q_awl_eq_6, q_awl_eq_7, q_awl_eq_10, q_AE_thenL_eq_1, q_AE_thenL_eq_3, q_AE_inBlockL_eq_1, q_AE_inBlockL_eq_3, q_putK_eq_1, q_vBin_eq_1, q_resV_eq_1, q_binV_eq_1, q_binInt_eq_3, q_cutInt_eq_1, q_cutInt_eq_7, q_cutInt_eq_8, q_vLen_eq_1, q_partV_eq_2, q_vLoad_eq_2, q_vIaddr_eq_1, q_mapT_eq_1, q_mapT_eq_2, q_mapO_eq_1, q_endK_eq_2, q_endL_eq_1, q_endV_eq_1, q_resL_eq_1, q_resL_eq_2, q_resX_eq_1, q_one_eq_1, q_V_nrm_eq_1, q_K_nrm_eq_1, q_K_nrm_eq_2, q_V_owns_eq_1, q_K_owns_eq_2, q_V_toNew_eq_1, q_K_toNew_eq_1, q_C_norm_eq_1, q_C_norm_eq_4, q_C_norm_eq_5, q_List_getD_cons_zero, true_and, if_true, and_self, List.nodup_nil, Nat.reduceBEq, Nat.zero_add, Int.toNat_natCast, Nat.le_refl, Int.natCast_nonneg, q_learn_eq_1, q_condK_eq_1, q_condB_eq_1, condB_bne, decide_true, normRows_ints, ints_len, lookT_here, lookT_next, uf22r3, uf22r4, uf22b5, uf22b6, uf22r7, uf22b8, uf22b9, uf22b10, uf22b11, uf22r12, uf22b13, uf22b14]
      refine ⟨fun hne => ?_, fun he => ?_⟩
      · have : a ≠ b := by rintro rfl; exact hne rfl
        simp [this]
      · refine Next.intro (i + 1) rfl rfl ⟨by omega, fun j hjl => ?_⟩ (by omega)
        by_cases hji : j = i
        · subst hji; simp [hlt, hlt2, he]
        · exact hj j (by omega)
    · have c1 : ¬ (i : Int) < a.length := by omega
      simp only [lst, lstC, ints_len, ints_isEmpty, c1, not_true_eq_false, not_false_eq_true, q_wpLs_eq_1, q_wpLs_eq_2, q_wpL_eq_1, q_exL_eq_1, q_exL_eq_11, q_exL_eq_30, q_look_eq_1, q_look_eq_2, q_lookO_eq_1, q_insT_eq_1, q_awl_eq_2, q_awl_eq_5, q_awl_eq_6, q_awl_eq_9, q_awl_eq_10, q_AE_thenL_eq_1, q_AE_thenL_eq_2, q_AE_inBlockL_eq_2, q_putK_eq_1, q_vBin_eq_1, q_resV_eq_1, q_binV_eq_1, q_binInt_eq_3, q_cutInt_eq_8, q_vLen_eq_1, q_mapT_eq_1, q_mapT_eq_2, q_mapO_eq_1, q_endK_eq_2, q_endL_eq_1, q_endV_eq_1, q_resL_eq_1, q_resL_eq_2, q_resX_eq_1, q_one_eq_1, q_V_nrm_eq_1, q_K_nrm_eq_1, q_V_owns_eq_1, q_K_owns_eq_2, q_V_toNew_eq_1, q_K_toNew_eq_1, q_C_norm_eq_1, q_C_norm_eq_4, q_C_norm_eq_5, true_and, if_true, and_self, List.nodup_nil, Nat.reduceBEq, q_learn_eq_1, q_condK_eq_1, q_condB_eq_2, decide_false, normRows_ints, ints_len, lookT_here, lookT_next, uf22r1, uf22b2, uf22b11, uf22r12, uf22b13, uf22b14]
      have : a = b := by
        refine List.ext_getElem? fun j => ?_
        by_cases hjl : j < i
        · exact hj j hjl
        · rw [List.getElem?_eq_none (by omega), List.getElem?_eq_none (by omega)]
      simp [this]
end Go.Abs


set_option maxRecDepth 100000
set_option maxHeartbeats 4000000
namespace Go.Abs
open Go.Proofs
def oA : Order := ⟨[], false, [], [⟨0, .mk 2 7 []⟩, ⟨6, .mk 0 3 []⟩]⟩
def oB : Order := ⟨[], false, [], [⟨0, .mk 2 15 []⟩]⟩
def oC : Order := ⟨[], false, [], [⟨0, .mk 0 3 []⟩]⟩
theorem p1 : ordersO [oA, oC, oB] 0 = (1, 11) := by decide
theorem p2 : ordersO [oA, oB] 0 = (-1, 0) := by decide
theorem p3 : typeQ 6 = .tup [.int .i64 0, .bool true] := rfl
theorem p4 : checkO oA = 0 := by decide
theorem p5 : checkO oB = 0 := by decide
theorem p6 : checkO oC = 11 := by decide
theorem p7 : usesO oA = [7] := by decide
theorem p8 : usesO oB = [15] := by decide
theorem p9 : usesO oC = [] := by decide
theorem p10 : (gapsO oA).length = 20 := by decide
theorem p11 : (gapsO oB).length = 21 := by decide
theorem p12 : blindO oA = [] := by decide
theorem p13 : blindO oB = [0] := by decide
theorem s22' (l : List Int) : Spec Try.prog 22 [lst 1 (ints l), lst 1 (ints l)] (fun r => r = .bool true) := by
  have := s22 l l
  simpa using this
theorem s14 : Spec Try.prog 14 [] (fun r => r = .bool true) := by
  have c1 := s18 [oA, oC, oB]
  rw [p1] at c1
  have c2 := s18 [oA, oB]
  rw [p2] at c2
  have c3 := s16 6
  rw [p3] at c3
  have c4 := s20 oA
  rw [p4] at c4
  have c5 := s20 oB
  rw [p5] at c5
  have c6 := s20 oC
  rw [p6] at c6
  have c7 := s25 oA (by decide)
  rw [p7] at c7
  have c8 := s25 oB (by decide)
  rw [p8] at c8
  have c9 := s25 oC (by decide)
  rw [p9] at c9
  have c10 := s23 oA
  have c11 := s23 oB
  have c12 := s27 oA (by decide)
  rw [p12] at c12
  have c13 := s27 oB (by decide)
  rw [p13] at c13
  refine Spec.of_awlS hf14 okf14 (by simp) fun S hS => ?_
  simp only [q_wpLs_eq_1, q_wpLs_eq_2, q_wpL_eq_1, q_exL_eq_1, q_exL_eq_4, q_exL_eq_6, q_exL_eq_7, q_exL_eq_8, q_exL_eq_9, q_exL_eq_28, q_look_eq_1, q_look_eq_2, q_insT_eq_1, q_insO_eq_1, q_awl_eq_2, q_awl_eq_5, q_AE_thenL_eq_1, q_initT_eq_1, q_putK_eq_1, q_loadO_eq_1, q_isV_eq_1, q_vLoad_eq_1, q_vBuild_eq_1, q_vBuild_eq_2, q_rowV_eq_1, q_ofRow_eq_2, q_pureRow_eq_1, q_pureRow_eq_2, q_pureRow_eq_3, q_V_cells_eq_1, q_V_cells_eq_2, q_V_cells_eq_3, q_splice_eq_1, q_vRow_eq_2, q_vLits_eq_1, q_vLits_eq_2, q_bsK_eq_1, q_stVarK_eq_1, q_storeK_eq_1, q_mapT_eq_1, q_mapT_eq_2, q_mapO_eq_1, q_mapO_eq_2, q_delO_eq_1, q_delO_eq_2, q_freeB_eq_1, q_freeT_eq_1, q_freeT_eq_2, q_freeO_eq_1, q_freeO_eq_2, q_V_noRef_eq_1, q_V_noRef_eq_2, q_V_noRef_eq_3, q_K_noRef_eq_1, q_K_noRef_eq_2, q_K_noRef_eq_3, q_O_noRef_eq_1, q_O_noRef_eq_2, q_Option_map_some, q_Option_map_none, q_List_map_cons, q_List_map_nil, q_List_take_succ_cons, q_List_take_zero, q_List_drop_succ_cons, q_List_drop_zero, q_List_nil_append, q_List_cons_append, q_List_foldl_cons, q_List_foldl_nil, q_List_replicate_succ, q_List_replicate_zero, q_List_set_cons_zero, q_List_set_cons_succ, q_List_length_cons, q_List_length_nil, q_List_all_cons, q_List_all_nil, true_and, if_true, if_false, forall_eq_or_imp, forall_eq, or_false, and_self, bne_iff_ne, ne_eq, Bool.and_eq_true, Bool.and_true, Bool.true_and, Bool.or_true, Bool.false_or, List.append_nil, List.mem_cons, Nat.reduceAdd, Nat.reduceEqDiff, Nat.reduceLeDiff, Nat.reduceLT, Nat.reduceBEq, Nat.zero_add, Nat.le_refl, not_false_eq_true, lookT_here, lookT_next, lookO_here, lookO_next, List.not_mem_nil, z_V_k, z_V_agg, z_K_c, z_O_var, z_frzT, z_frzO, q_awl_eq_14, z_agF1, z_V_agk, z_K_own_arr, z_K_ptr_arr, uf14, uf14r13, uf14b14, uf14r15, uf14b16, uf14r17, uf14b18, uf14r19, uf14b20, uf14r21, uf14b22, uf14r23, uf14b24, uf14r25, uf14b26, uf14r27, uf14b28]
  refine call_s c1 ?_ (ha := by rfl)
  simp only [pairV, q_wpLs_eq_1, q_wpLs_eq_2, q_wpL_eq_1, q_exL_eq_1, q_exL_eq_7, q_exL_eq_8, q_exL_eq_27, q_exL_eq_28, q_look_eq_1, q_insT_eq_1, q_insO_eq_1, q_awl_eq_2, q_awl_eq_5, q_AE_thenL_eq_1, q_putK_eq_1, q_vExtr_eq_1, q_loadO_eq_1, q_isV_eq_1, q_vLoad_eq_1, q_ofRow_eq_2, q_pureRow_eq_1, q_pureRow_eq_2, q_vRow_eq_2, q_vLits_eq_1, q_vLits_eq_2, q_bsK_eq_1, q_freeB_eq_1, q_freeT_eq_1, q_freeT_eq_2, q_freeO_eq_1, q_freeO_eq_2, q_V_noRef_eq_1, q_V_noRef_eq_2, q_V_noRef_eq_4, q_K_noRef_eq_1, q_K_noRef_eq_2, q_K_noRef_eq_3, q_O_noRef_eq_1, q_O_noRef_eq_2, q_V_noRefL_eq_1, q_V_noRefL_eq_2, q_Option_map_some, q_List_map_cons, q_List_map_nil, q_List_take_succ_cons, q_List_take_zero, q_List_drop_zero, q_List_foldl_cons, q_List_foldl_nil, q_List_replicate_succ, q_List_replicate_zero, q_List_set_cons_zero, q_List_set_cons_succ, q_List_length_cons, q_List_length_nil, q_List_getElemQ_cons_zero, q_List_getElemQ_cons_succ, q_List_all_cons, q_List_all_nil, true_and, if_true, forall_eq_or_imp, forall_eq, or_false, and_self, bne_iff_ne, ne_eq, Bool.and_eq_true, Bool.and_true, Bool.true_and, Bool.or_true, Bool.false_or, List.mem_cons, Nat.reduceAdd, Nat.reduceEqDiff, Nat.reduceLT, Nat.reduceBEq, Nat.zero_add, Nat.le_refl, not_false_eq_true, lookT_here, lookT_next, lookO_here, lookO_next, List.not_mem_nil, uf14r11, uf14b12]
  refine call_s c2 ?_ (ha := by rfl)
  simp only [pairV, q_wpLs_eq_1, q_wpLs_eq_2, q_wpL_eq_1, q_exL_eq_1, q_exL_eq_27, q_exL_eq_28, q_look_eq_1, q_look_eq_2, q_insT_eq_1, q_awl_eq_2, q_awl_eq_5, q_AE_thenL_eq_1, q_putK_eq_1, q_vExtr_eq_1, q_List_map_cons, q_List_map_nil, q_List_getElemQ_cons_zero, q_List_getElemQ_cons_succ, true_and, Int.reduceNeg, Nat.reduceBEq, lookT_here, lookT_next, uf14r9, uf14b10]
  refine call_s c3 ?_ (ha := by rfl)
  simp only [q_wpLs_eq_1, q_wpLs_eq_2, q_wpL_eq_1, q_exL_eq_1, q_exL_eq_8, q_exL_eq_27, q_exL_eq_28, q_look_eq_1, q_insT_eq_1, q_awl_eq_2, q_awl_eq_5, q_AE_thenL_eq_1, q_putK_eq_1, q_vExtr_eq_1, q_loadO_eq_1, q_isV_eq_1, q_vLoad_eq_1, q_ofRow_eq_2, q_pureRow_eq_1, q_pureRow_eq_2, q_Option_map_some, q_List_map_cons, q_List_map_nil, q_List_take_succ_cons, q_List_take_zero, q_List_drop_zero, q_List_length_cons, q_List_length_nil, q_List_getElemQ_cons_zero, q_List_getElemQ_cons_succ, true_and, if_true, Int.reduceNeg, Nat.reduceAdd, Nat.reduceBEq, Nat.zero_add, Nat.le_refl, lookT_here, lookT_next, lookO_here, lookO_next, uf14r7, uf14b8]
  refine call_s c4 ?_ (ha := by rfl)
  simp only [q_wpLs_eq_2, q_wpL_eq_1, q_AOp_dst_eq_8, q_AOp_dst_eq_32, q_exL_eq_1, q_exL_eq_8, q_exL_eq_11, q_exL_eq_28, q_look_eq_1, q_look_eq_2, q_insT_eq_1, q_putK_eq_1, q_vBin_eq_1, q_resV_eq_1, q_binV_eq_1, q_binInt_eq_3, q_cutInt_eq_6, q_loadO_eq_1, q_isV_eq_1, q_vLoad_eq_1, q_ofRow_eq_2, q_pureRow_eq_1, q_pureRow_eq_2, q_Bool_not_true, q_Option_map_some, q_List_map_cons, q_List_map_nil, q_List_take_succ_cons, q_List_take_zero, q_List_drop_zero, q_List_length_cons, q_List_length_nil, true_and, if_true, Int.reduceNeg, BEq.rfl, Nat.reduceAdd, Nat.reduceBEq, Nat.zero_add, Nat.le_refl, q_guardP_eq_1, q_condB_eq_1, q_exK_eq_1, lookT_here, lookT_next, lookO_here, lookO_next]
  refine call_s c5 ?_ (ha := by rfl)
  simp only [q_wpLs_eq_2, q_wpL_eq_1, q_AOp_dst_eq_8, q_AOp_dst_eq_10, q_AOp_dst_eq_32, q_exL_eq_1, q_exL_eq_3, q_exL_eq_8, q_exL_eq_11, q_exL_eq_28, q_look_eq_1, q_look_eq_2, q_insT_eq_1, q_putK_eq_1, q_vBin_eq_1, q_resV_eq_1, q_binV_eq_1, q_binInt_eq_3, q_cutInt_eq_6, q_loadO_eq_1, q_isV_eq_1, q_vLoad_eq_1, q_vPick_eq_1, q_ofRow_eq_2, q_pureRow_eq_1, q_pureRow_eq_2, q_Bool_not_true, q_Option_map_some, q_List_map_cons, q_List_map_nil, q_List_take_succ_cons, q_List_take_zero, q_List_drop_zero, q_List_length_cons, q_List_length_nil, true_and, if_true, Int.reduceNeg, BEq.rfl, Nat.reduceAdd, Nat.reduceBEq, Nat.zero_add, Nat.le_refl, q_guardP_eq_1, q_condB_eq_1, q_exK_eq_1, lookT_here, lookT_next, lookO_here, lookO_next]
  refine call_s c6 ?_ (ha := by rfl)
  simp only [q_wpLs_eq_1, q_wpLs_eq_2, q_wpL_eq_1, q_AOp_dst_eq_1, q_AOp_dst_eq_10, q_exL_eq_1, q_exL_eq_3, q_exL_eq_8, q_exL_eq_11, q_exL_eq_28, q_look_eq_1, q_look_eq_2, q_insT_eq_1, q_awl_eq_2, q_awl_eq_5, q_AE_thenL_eq_1, q_putK_eq_1, q_vBin_eq_1, q_resV_eq_1, q_binV_eq_1, q_binInt_eq_3, q_cutInt_eq_6, q_loadO_eq_1, q_isV_eq_1, q_vLoad_eq_1, q_vPick_eq_1, q_ofRow_eq_2, q_pureRow_eq_1, q_pureRow_eq_2, q_Bool_not_true, q_Option_map_some, q_List_map_cons, q_List_map_nil, q_List_take_succ_cons, q_List_take_zero, q_List_drop_zero, q_List_length_cons, q_List_length_nil, true_and, if_true, Int.reduceNeg, BEq.rfl, Nat.reduceAdd, Nat.reduceBEq, Nat.zero_add, Nat.le_refl, q_guardP_eq_1, q_condB_eq_1, q_exK_eq_1, lookT_here, lookT_next, lookO_here, lookO_next, uf14r5, uf14b6]
  refine call_l c7 ?_ (ha := by rfl)
  simp only [q_wpLs_eq_2, q_wpL_eq_1, q_exL_eq_7, q_exL_eq_28, q_look_eq_1, q_look_eq_2, q_insT_eq_1, q_insO_eq_1, q_vRow_eq_1, q_vLits_eq_1, q_vLits_eq_2, q_bsK_eq_1, q_freeB_eq_1, q_freeT_eq_1, q_freeT_eq_2, q_freeO_eq_1, q_freeO_eq_2, q_V_noRef_eq_1, q_V_noRef_eq_2, q_V_noRef_eq_4, q_K_noRef_eq_1, q_K_noRef_eq_2, q_K_noRef_eq_3, q_O_noRef_eq_1, q_O_noRef_eq_2, q_V_noRefL_eq_1, q_V_noRefL_eq_2, q_List_map_cons, q_List_map_nil, q_List_foldl_cons, q_List_foldl_nil, q_List_replicate_succ, q_List_replicate_zero, q_List_set_cons_zero, q_List_length_cons, q_List_length_nil, q_List_all_cons, q_List_all_nil, true_and, forall_eq, or_false, and_self, bne_iff_ne, ne_eq, Bool.and_eq_true, Bool.and_true, Bool.true_and, Bool.or_true, Bool.false_or, Int.reduceNeg, List.mem_cons, Nat.reduceEqDiff, Nat.reduceLT, Nat.reduceBEq, Nat.zero_add, not_false_eq_true, lookT_here, lookT_next, List.not_mem_nil]
  refine call_s (s22' [7]) ?_ (ha := by rfl)
  simp only [q_wpLs_eq_2, q_wpL_eq_1, q_AOp_dst_eq_8, q_AOp_dst_eq_32, q_exL_eq_1, q_exL_eq_8, q_exL_eq_28, q_look_eq_1, q_insT_eq_1, q_putK_eq_1, q_loadO_eq_1, q_isV_eq_1, q_vLoad_eq_1, q_ofRow_eq_2, q_pureRow_eq_1, q_pureRow_eq_2, q_Bool_not_true, q_Option_map_some, q_List_map_cons, q_List_map_nil, q_List_take_succ_cons, q_List_take_zero, q_List_drop_zero, q_List_length_cons, q_List_length_nil, true_and, if_true, Int.reduceNeg, Nat.reduceAdd, Nat.reduceBEq, Nat.zero_add, Nat.le_refl, q_guardP_eq_1, q_condB_eq_1, q_exK_eq_1, lookT_here, lookT_next, lookO_here, lookO_next]
  refine call_l c8 ?_ (ha := by rfl)
  simp only [q_wpLs_eq_2, q_wpL_eq_1, q_AOp_dst_eq_7, q_AOp_dst_eq_32, q_exL_eq_7, q_exL_eq_28, q_look_eq_1, q_look_eq_2, q_insT_eq_1, q_insO_eq_1, q_vRow_eq_1, q_vLits_eq_1, q_vLits_eq_2, q_bsK_eq_1, q_freeB_eq_1, q_freeT_eq_1, q_freeT_eq_2, q_freeO_eq_1, q_freeO_eq_2, q_V_noRef_eq_1, q_V_noRef_eq_2, q_V_noRef_eq_4, q_K_noRef_eq_1, q_K_noRef_eq_2, q_K_noRef_eq_3, q_O_noRef_eq_1, q_O_noRef_eq_2, q_V_noRefL_eq_1, q_V_noRefL_eq_2, q_Bool_not_true, q_List_map_cons, q_List_map_nil, q_List_foldl_cons, q_List_foldl_nil, q_List_replicate_succ, q_List_replicate_zero, q_List_set_cons_zero, q_List_length_cons, q_List_length_nil, q_List_all_cons, q_List_all_nil, true_and, forall_eq, or_false, and_self, bne_iff_ne, ne_eq, Bool.and_eq_true, Bool.and_true, Bool.true_and, Bool.or_true, Bool.false_or, Int.reduceNeg, List.mem_cons, Nat.reduceEqDiff, Nat.reduceLT, Nat.reduceBEq, Nat.zero_add, not_false_eq_true, q_guardP_eq_1, q_condB_eq_1, q_exK_eq_1, lookT_here, lookT_next, List.not_mem_nil]
  refine call_s (s22' [15]) ?_ (ha := by rfl)
  simp only [q_wpLs_eq_2, q_wpL_eq_1, q_AOp_dst_eq_8, q_AOp_dst_eq_32, q_exL_eq_1, q_exL_eq_3, q_exL_eq_8, q_exL_eq_28, q_look_eq_1, q_look_eq_2, q_insT_eq_1, q_putK_eq_1, q_loadO_eq_1, q_isV_eq_1, q_vLoad_eq_1, q_vPick_eq_1, q_ofRow_eq_2, q_pureRow_eq_1, q_pureRow_eq_2, q_Bool_not_true, q_Option_map_some, q_List_map_cons, q_List_map_nil, q_List_take_succ_cons, q_List_take_zero, q_List_drop_zero, q_List_length_cons, q_List_length_nil, true_and, if_true, Int.reduceNeg, Nat.reduceAdd, Nat.reduceBEq, Nat.zero_add, Nat.le_refl, q_guardP_eq_1, q_condB_eq_1, q_exK_eq_1, lookT_here, lookT_next, lookO_here, lookO_next]
  refine call_l c9 ?_ (ha := by rfl)
  simp only [List.length_nil, q_wpLs_eq_1, q_wpLs_eq_2, q_wpL_eq_1, q_AOp_dst_eq_10, q_AOp_dst_eq_27, q_exL_eq_1, q_exL_eq_3, q_exL_eq_8, q_exL_eq_11, q_exL_eq_28, q_exL_eq_30, q_look_eq_1, q_look_eq_2, q_insT_eq_1, q_insO_eq_1, q_awl_eq_2, q_awl_eq_5, q_AE_thenL_eq_1, q_putK_eq_1, q_vBin_eq_1, q_resV_eq_1, q_binV_eq_1, q_binInt_eq_3, q_cutInt_eq_6, q_vLen_eq_2, q_lenO_eq_1, q_loadO_eq_1, q_isV_eq_1, q_vLoad_eq_1, q_vPick_eq_1, q_ofRow_eq_2, q_pureRow_eq_1, q_pureRow_eq_2, q_Bool_not_true, q_Option_map_some, q_List_map_cons, q_List_map_nil, q_List_take_succ_cons, q_List_take_zero, q_List_drop_zero, q_List_length_cons, true_and, if_true, Int.reduceNeg, BEq.rfl, Nat.reduceAdd, Nat.reduceBEq, Nat.zero_add, Nat.le_refl, q_guardP_eq_1, q_condB_eq_1, q_exK_eq_1, ints_len, lookT_here, lookT_next, Int.cast_ofNat_Int, lookO_here, lookO_next, uf14r3, uf14b4]
  refine call_l c10 ?_ (ha := by rfl)
  simp only [p10, q_wpLs_eq_2, q_wpL_eq_1, q_AOp_dst_eq_8, q_AOp_dst_eq_32, q_exL_eq_1, q_exL_eq_8, q_exL_eq_11, q_exL_eq_28, q_exL_eq_30, q_look_eq_1, q_look_eq_2, q_insT_eq_1, q_insO_eq_1, q_putK_eq_1, q_vBin_eq_1, q_resV_eq_1, q_binV_eq_1, q_binInt_eq_3, q_cutInt_eq_6, q_vLen_eq_2, q_lenO_eq_1, q_loadO_eq_1, q_isV_eq_1, q_vLoad_eq_1, q_ofRow_eq_2, q_pureRow_eq_1, q_pureRow_eq_2, q_Bool_not_true, q_Option_map_some, q_List_map_cons, q_List_map_nil, q_List_take_succ_cons, q_List_take_zero, q_List_drop_zero, q_List_length_cons, q_List_length_nil, true_and, if_true, Int.reduceNeg, BEq.rfl, Nat.reduceAdd, Nat.reduceBEq, Nat.zero_add, Nat.le_refl, q_guardP_eq_1, q_condB_eq_1, q_exK_eq_1, ints_len, lookT_here, lookT_next, Int.cast_ofNat_Int, lookO_here, lookO_next]
  refine call_l c11 ?_ (ha := by rfl)
  simp only [p11, q_wpLs_eq_2, q_wpL_eq_1, q_AOp_dst_eq_8, q_AOp_dst_eq_10, q_AOp_dst_eq_27, q_AOp_dst_eq_32, q_exL_eq_1, q_exL_eq_3, q_exL_eq_8, q_exL_eq_11, q_exL_eq_28, q_exL_eq_30, q_look_eq_1, q_look_eq_2, q_insT_eq_1, q_insO_eq_1, q_putK_eq_1, q_vBin_eq_1, q_resV_eq_1, q_binV_eq_1, q_binInt_eq_3, q_cutInt_eq_6, q_vLen_eq_2, q_lenO_eq_1, q_loadO_eq_1, q_isV_eq_1, q_vLoad_eq_1, q_vPick_eq_1, q_ofRow_eq_2, q_pureRow_eq_1, q_pureRow_eq_2, q_Bool_not_true, q_Option_map_some, q_List_map_cons, q_List_map_nil, q_List_take_succ_cons, q_List_take_zero, q_List_drop_zero, q_List_length_cons, q_List_length_nil, true_and, if_true, Int.reduceNeg, BEq.rfl, Nat.reduceAdd, Nat.reduceBEq, Nat.zero_add, Nat.le_refl, q_guardP_eq_1, q_condB_eq_1, q_exK_eq_1, ints_len, lookT_here, lookT_next, Int.cast_ofNat_Int, lookO_here, lookO_next]
  refine call_l c12 ?_ (ha := by rfl)
  simp only [List.length_nil, q_wpLs_eq_2, q_wpL_eq_1, q_AOp_dst_eq_8, q_AOp_dst_eq_10, q_AOp_dst_eq_27, q_AOp_dst_eq_32, q_exL_eq_1, q_exL_eq_3, q_exL_eq_8, q_exL_eq_11, q_exL_eq_28, q_exL_eq_30, q_look_eq_1, q_look_eq_2, q_insT_eq_1, q_insO_eq_1, q_putK_eq_1, q_vBin_eq_1, q_resV_eq_1, q_binV_eq_1, q_binInt_eq_3, q_cutInt_eq_6, q_vLen_eq_2, q_lenO_eq_1, q_loadO_eq_1, q_isV_eq_1, q_vLoad_eq_1, q_vPick_eq_1, q_ofRow_eq_2, q_pureRow_eq_1, q_pureRow_eq_2, q_Bool_not_true, q_Option_map_some, q_List_map_cons, q_List_map_nil, q_List_take_succ_cons, q_List_take_zero, q_List_drop_zero, q_List_length_cons, true_and, if_true, Int.reduceNeg, BEq.rfl, Nat.reduceAdd, Nat.reduceBEq, Nat.zero_add, Nat.le_refl, q_guardP_eq_1, q_condB_eq_1, q_exK_eq_1, ints_len, lookT_here, lookT_next, Int.cast_ofNat_Int, lookO_here, lookO_next]
  refine call_l c13 ?_ (ha := by rfl)
  simp only [q_wpLs_eq_2, q_wpL_eq_1, q_AOp_dst_eq_7, q_AOp_dst_eq_32, q_exL_eq_7, q_exL_eq_28, q_look_eq_1, q_look_eq_2, q_insT_eq_1, q_insO_eq_1, q_vRow_eq_1, q_vLits_eq_1, q_vLits_eq_2, q_bsK_eq_1, q_freeB_eq_1, q_freeT_eq_1, q_freeT_eq_2, q_freeO_eq_1, q_freeO_eq_2, q_V_noRef_eq_1, q_V_noRef_eq_2, q_V_noRef_eq_4, q_K_noRef_eq_1, q_K_noRef_eq_2, q_K_noRef_eq_3, q_O_noRef_eq_1, q_O_noRef_eq_2, q_V_noRefL_eq_1, q_V_noRefL_eq_2, q_Bool_not_true, q_List_map_cons, q_List_map_nil, q_List_foldl_cons, q_List_foldl_nil, q_List_replicate_succ, q_List_replicate_zero, q_List_set_cons_zero, q_List_length_cons, q_List_length_nil, q_List_all_cons, q_List_all_nil, true_and, forall_eq, or_false, and_self, bne_iff_ne, ne_eq, Bool.and_eq_true, Bool.and_true, Bool.true_and, Bool.or_true, Bool.false_or, Int.reduceNeg, List.mem_cons, Nat.reduceEqDiff, Nat.reduceLT, Nat.reduceBEq, Nat.zero_add, not_false_eq_true, q_guardP_eq_1, q_condB_eq_1, q_exK_eq_1, lookT_here, lookT_next, List.not_mem_nil]
  refine call_s (s22' [0]) ?_ (ha := by rfl)
  simp only [q_wpLs_eq_1, q_wpLs_eq_2, q_wpL_eq_1, q_AOp_dst_eq_1, q_exL_eq_1, q_exL_eq_3, q_look_eq_1, q_look_eq_2, q_insT_eq_1, q_awl_eq_2, q_awl_eq_5, q_awl_eq_10, q_AE_thenL_eq_1, q_putK_eq_1, q_vPick_eq_1, q_mapT_eq_1, q_mapT_eq_2, q_mapO_eq_1, q_mapO_eq_2, q_endK_eq_2, q_endL_eq_1, q_endV_eq_1, q_resL_eq_1, q_resL_eq_2, q_resX_eq_1, q_one_eq_1, q_V_nrm_eq_1, q_V_nrm_eq_2, q_V_nrm_eq_4, q_K_nrm_eq_1, q_K_nrm_eq_3, q_V_nrmL_eq_1, q_V_nrmL_eq_2, q_O_nrm_eq_1, q_O_nrm_eq_2, q_V_owns_eq_1, q_K_owns_eq_2, q_V_toNew_eq_1, q_K_toNew_eq_1, q_C_norm_eq_1, q_C_norm_eq_4, q_C_norm_eq_5, q_C_norm_eq_6, q_C_normRow_eq_1, q_C_normRow_eq_2, q_C_normRows_eq_1, q_C_normRows_eq_2, q_Bool_not_true, q_List_map_cons, q_List_map_nil, q_List_isEmpty_nil, q_List_isEmpty_cons, true_and, if_true, if_false, Bool.false_eq_true, and_self, Int.reduceNeg, List.nodup_nil, Nat.reduceBEq, q_guardP_eq_1, q_condB_eq_1, q_exK_eq_1, normRows_ints, lookT_here, lookT_next, uf14r1, uf14b2]
  exact hS
end Go.Abs

