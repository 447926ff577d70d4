/- A part of the proof; the last text states what is proved. -/
import Derived.Test.YtckobjgahmmkaaaP5
import Derived.Test.YtckobjgahmmkaaaRows
import Derived.ProofKit
import Derived.DataShut
set_option linter.unusedVariables false
set_option linter.unusedSimpArgs false
set_option maxRecDepth 100000
set_option maxHeartbeats 4000000
namespace Go.Abs
open Go.Proofs
theorem s54 (op : Int) (l : List Term) : Spec Try.prog 54 [.int .i64 op, lst 3 (l.map encT)] (fun r => r = .agg (encT (.mk op 0 l))) := by
  refine Spec.of_awlS hf54 okf54 (by simp) fun S hS => ?_
  simp only [q_wpLs_eq_1, q_wpLs_eq_2, q_wpL_eq_1, q_exL_eq_1, q_exL_eq_4, q_exL_eq_6, q_exL_eq_9, q_look_eq_1, q_insT_eq_1, q_insO_eq_1, q_awl_eq_2, q_awl_eq_5, q_awl_eq_10, q_AE_thenL_eq_1, q_initT_eq_1, q_initT_eq_2, q_putK_eq_1, q_vBuild_eq_1, q_vBuild_eq_2, q_rowV_eq_1, q_ofRow_eq_2, q_pureRow_eq_1, q_pureRow_eq_2, q_V_cells_eq_1, q_V_cells_eq_2, q_splice_eq_1, q_stVarK_eq_1, q_storeK_eq_1, q_mapT_eq_1, q_mapT_eq_2, q_mapO_eq_1, q_mapO_eq_2, q_freeB_eq_1, q_freeT_eq_1, q_freeT_eq_2, q_freeO_eq_1, q_V_noRef_eq_1, q_K_noRef_eq_1, q_endK_eq_2, q_endL_eq_1, q_endV_eq_1, q_resL_eq_1, q_resL_eq_2, q_resX_eq_2, q_resCell_eq_1, q_one_eq_1, q_V_nrm_eq_1, q_V_nrm_eq_2, q_K_nrm_eq_1, q_K_nrm_eq_3, q_O_nrm_eq_1, q_V_owns_eq_4, q_V_toNew_eq_2, q_C_norm_eq_1, q_C_norm_eq_4, q_C_normRow_eq_1, q_C_normRow_eq_2, q_C_normRows_eq_1, q_Option_map_some, q_List_map_cons, q_List_map_nil, q_List_take_succ_cons, q_List_take_zero, q_List_drop_succ_cons, q_List_drop_zero, q_List_nil_append, q_List_cons_append, q_List_length_cons, q_List_length_nil, q_List_isEmpty_nil, true_and, if_true, and_self, Bool.and_true, Bool.or_true, List.append_nil, List.nodup_nil, Nat.reduceAdd, Nat.reduceLeDiff, Nat.reduceLT, Nat.reduceBEq, Nat.zero_add, Nat.le_refl, norm_lst, normRows_T, lookT_here, lookT_next, lookO_here, uf54, uf54r1, uf54b2, uf54r3, uf54b4]
  exact fin hS (by rw [encT_eq]; rfl)
theorem s55 (n : Int) : Spec Try.prog 55 [.int .i64 n] (fun r => r = .agg (encT (.mk 2 n []))) := by
  refine Spec.of_awlS hf55 okf55 (by simp) fun S hS => ?_
  simp only [q_wpLs_eq_1, q_wpLs_eq_2, q_wpL_eq_1, q_exL_eq_1, q_exL_eq_4, q_exL_eq_6, q_exL_eq_9, q_look_eq_1, q_look_eq_2, q_insT_eq_1, q_insO_eq_1, q_awl_eq_2, q_awl_eq_5, q_awl_eq_10, q_AE_thenL_eq_1, q_initT_eq_1, q_initT_eq_2, q_putK_eq_1, q_vBuild_eq_1, q_vBuild_eq_2, q_rowV_eq_1, q_ofRow_eq_2, q_pureRow_eq_1, q_pureRow_eq_2, q_V_cells_eq_1, q_V_cells_eq_2, q_splice_eq_1, q_stVarK_eq_1, q_storeK_eq_1, q_mapT_eq_1, q_mapT_eq_2, q_mapO_eq_1, q_mapO_eq_2, q_freeB_eq_1, q_freeT_eq_1, q_freeT_eq_2, q_freeO_eq_1, q_V_noRef_eq_1, q_K_noRef_eq_1, q_endK_eq_2, q_endL_eq_1, q_endV_eq_1, q_resL_eq_1, q_resL_eq_2, q_resX_eq_2, q_resCell_eq_1, q_one_eq_1, q_V_nrm_eq_1, q_V_nrm_eq_2, q_K_nrm_eq_1, q_K_nrm_eq_3, q_O_nrm_eq_1, q_V_owns_eq_4, q_V_toNew_eq_2, q_C_norm_eq_1, q_C_norm_eq_4, q_C_normRow_eq_1, q_C_normRow_eq_2, q_C_normRows_eq_1, q_Option_map_some, q_List_map_cons, q_List_map_nil, q_List_take_succ_cons, q_List_take_zero, q_List_drop_succ_cons, q_List_drop_zero, q_List_nil_append, q_List_cons_append, q_List_length_cons, q_List_length_nil, q_List_isEmpty_nil, true_and, if_true, and_self, Bool.and_true, Bool.or_true, List.append_nil, List.nodup_nil, Nat.reduceAdd, Nat.reduceLeDiff, Nat.reduceLT, Nat.reduceBEq, Nat.zero_add, Nat.le_refl, lookT_here, lookT_next, lookO_here, uf55, uf55r1, uf55b2, uf55r3, uf55b4]
  exact fin hS (by rw [encT_eq]; rfl)
theorem s56 (n : Int) : Spec Try.prog 56 [.int .i64 n] (fun r => r = .agg (encT (.mk 0 n []))) := by
  refine Spec.of_awlS hf56 okf56 (by simp) fun S hS => ?_
  simp only [q_wpLs_eq_1, q_wpLs_eq_2, q_wpL_eq_1, q_exL_eq_1, q_exL_eq_4, q_exL_eq_6, q_exL_eq_9, q_look_eq_1, q_insT_eq_1, q_insO_eq_1, q_awl_eq_2, q_awl_eq_5, q_awl_eq_10, q_AE_thenL_eq_1, q_initT_eq_1, q_initT_eq_2, q_putK_eq_1, q_vBuild_eq_1, q_vBuild_eq_2, q_rowV_eq_1, q_ofRow_eq_2, q_pureRow_eq_1, q_pureRow_eq_2, q_V_cells_eq_1, q_V_cells_eq_2, q_splice_eq_1, q_stVarK_eq_1, q_storeK_eq_1, q_mapT_eq_1, q_mapT_eq_2, q_mapO_eq_1, q_mapO_eq_2, q_freeB_eq_1, q_freeT_eq_1, q_freeT_eq_2, q_freeO_eq_1, q_V_noRef_eq_1, q_K_noRef_eq_1, q_endK_eq_2, q_endL_eq_1, q_endV_eq_1, q_resL_eq_1, q_resL_eq_2, q_resX_eq_2, q_resCell_eq_1, q_one_eq_1, q_V_nrm_eq_1, q_V_nrm_eq_2, q_K_nrm_eq_1, q_K_nrm_eq_3, q_O_nrm_eq_1, q_V_owns_eq_4, q_V_toNew_eq_2, q_C_norm_eq_1, q_C_norm_eq_4, q_C_normRow_eq_1, q_C_normRow_eq_2, q_C_normRows_eq_1, q_Option_map_some, q_List_map_cons, q_List_map_nil, q_List_take_succ_cons, q_List_take_zero, q_List_drop_succ_cons, q_List_drop_zero, q_List_nil_append, q_List_cons_append, q_List_length_cons, q_List_length_nil, q_List_isEmpty_nil, true_and, if_true, and_self, Bool.and_true, Bool.or_true, List.append_nil, List.nodup_nil, Nat.reduceAdd, Nat.reduceLeDiff, Nat.reduceLT, Nat.reduceBEq, Nat.zero_add, Nat.le_refl, lookT_here, lookT_next, lookO_here, uf56, uf56r1, uf56b2, uf56r3, uf56b4]
  exact fin hS (by rw [encT_eq]; rfl)
def oneK (k : Nat) (x : Int) : List Cell := (List.replicate 20 (⟨false, 0⟩ : Cell)).set k ⟨true, x⟩
theorem s57 (k : Nat) (x : Int) (hk : k < 20) : Spec Try.prog 57 [.int .i64 k, .int .i64 x] (fun r => r = .k (.newl 53 2 none ((oneK k x).map encCell))) := by
  refine Spec.of_awlS hf57 okf57 (by simp) fun S hS => ?_
  have h1 : (0 : Int) ≤ k := by omega
  have h2 : (k : Int) < 20 := by omega
  simp only [h1, h2, q_wpLs_eq_1, q_wpLs_eq_2, q_wpL_eq_1, q_exL_eq_1, q_exL_eq_2, q_exL_eq_6, q_exL_eq_9, q_exL_eq_18, q_exL_eq_23, q_look_eq_1, q_look_eq_2, q_insT_eq_1, q_insO_eq_1, q_awl_eq_2, q_awl_eq_5, q_awl_eq_10, q_AE_thenL_eq_1, q_initT_eq_1, q_initT_eq_2, q_putK_eq_1, q_vIaddr_eq_2, q_idxO_eq_1, q_vBuild_eq_1, q_vBuild_eq_2, q_rowV_eq_1, q_ofRow_eq_2, q_pureRow_eq_1, q_pureRow_eq_2, q_V_cells_eq_1, q_splice_eq_1, q_isArrO_eq_1, q_vRow_eq_2, q_stArrK_eq_1, q_storeK_eq_2, q_mkslK_eq_1, q_mapT_eq_1, q_mapT_eq_2, q_mapO_eq_1, q_mapO_eq_2, q_freeB_eq_1, q_freeT_eq_1, q_freeT_eq_2, q_freeO_eq_1, q_freeO_eq_2, q_V_noRef_eq_1, q_K_noRef_eq_1, q_K_noRef_eq_2, q_O_noRef_eq_2, q_endK_eq_2, q_endL_eq_1, q_endV_eq_1, q_resL_eq_1, q_resL_eq_2, q_resX_eq_1, q_one_eq_1, q_V_nrm_eq_1, q_V_nrm_eq_2, q_K_nrm_eq_1, q_K_nrm_eq_3, q_O_nrm_eq_2, q_V_owns_eq_1, q_K_owns_eq_1, q_V_toNew_eq_1, q_K_toNew_eq_2, q_C_norm_eq_4, q_C_norm_eq_5, q_C_normRow_eq_1, q_C_normRow_eq_2, q_C_normRows_eq_1, q_C_normRows_eq_2, q_Option_map_some, q_List_map_cons, q_List_map_nil, q_List_take_succ_cons, q_List_take_zero, q_List_drop_succ_cons, q_List_drop_zero, q_List_nil_append, q_List_cons_append, q_List_replicate_succ, q_List_replicate_zero, q_List_length_cons, q_List_length_nil, true_and, if_true, and_self, bne_iff_ne, ne_eq, Bool.and_true, Bool.or_true, Bool.false_or, List.append_nil, List.nodup_nil, List.nodup_cons, Nat.reduceAdd, Nat.reduceEqDiff, Nat.reduceLeDiff, Nat.reduceBEq, Nat.zero_add, Int.toNat_natCast, Nat.le_refl, not_false_eq_true, lookT_here, lookT_next, Int.reduceLE, Int.reduceToNat, Int.cast_ofNat_Int, lookO_here, List.not_mem_nil, uf57, uf57r1, uf57b2, uf57r3, uf57b4, uf57r5, uf57b6, uf57r7, uf57b8]
  refine ⟨by decide, fin hS ?_⟩
  rw [show (List.map encCell (oneK k x)) = C.normRows (List.map encCell (oneK k x)) from (normRows_Ce _).symm, oneK, List.map_set]
  rfl
@[simp] theorem normRow_encB (b : Bool) : C.normRow (encB b) = encB b := rfl
@[simp] theorem normRows_B (l : List Bool) : C.normRows (l.map encB) = l.map encB := normRows_eq normRow_encB l
end Go.Abs


set_option maxRecDepth 100000
set_option maxHeartbeats 4000000
namespace Go.Abs
open Go.Proofs
theorem thaw49 : ThawSort Try.prog 49 := fun _ _ _ _ _ _ _ _ hk hz hp hl => thaw_sort Try.laysSort hk hz hp hl
theorem thaw50 : ThawComp Try.prog 50 := fun _ _ _ _ _ _ _ _ hk hz hp => thaw_compact Try.laysCompact hk hz hp
theorem nosz_lst {α : Type} {f : α → List C} {n sz : Nat} (h0 : n ≠ 0) (hs : sz ≠ n) (l : List α) (hf : ∀ x, x ∈ l → ∀ c, c ∈ f x → NoSz n c) : NoSz n (lstC sz (l.map f)) := by
  refine .list _ _ _ ?_ fun r hr c hc => ?_
  · split
    · exact fun e => h0 e.symm
    · exact hs
  · obtain ⟨x, hx, rfl⟩ := List.mem_map.1 hr
    exact hf x hx c hc
theorem nosz_term : ∀ (t : Term), ∀ c, c ∈ encT t → NoSz 1 c := by
  refine Term.ind fun o n a ih => ?_
  intro c hc
  rw [encT_eq] at hc
  simp only [List.mem_cons, List.mem_nil_iff, or_false] at hc
  rcases hc with rfl | rfl | rfl
  · exact .int _ _
  · exact .int _ _
  · exact nosz_lst (by simp) (by simp) _ ih
theorem s39 (t : Term) (cells : List Cell) : Spec Try.prog 39 [.agg (encT t), lst 2 (cells.map encCell)] (fun r => r = lst 1 (ints (reachT t cells))) := by
  refine (Spec.plain (S := fun r => r.fz.nrm = lst 1 (ints (reachT t cells))) ?_).mono (by rintro r' ⟨r, h, rfl⟩; exact h)
  refine Spec.of_thaw (q1 := .region f39r15) (q2 := f39b13) (q3 := .region f39r5) (n := 27) (d1 := 23) (d2 := 24) (e1 := 25) (e2 := 26) (s := 8) (r := 4) (g1 := 49) (g2 := 50) hf39 (by kernel_rfl) (by simp) ⟨by simp, by simp⟩ ?_ (callable_at (by kernel_rfl)) (callable_at (by kernel_rfl)) thaw49 thaw50 (awq_of_mid ?_)
  · intro x hx
    simp only [List.mem_cons, List.mem_nil_iff, or_false] at hx
    rcases hx with rfl | rfl
    · exact nosz_term t
    · exact nosz_lst (by simp) (by simp) _ fun x _ c hc => by
        simp only [encCell, List.mem_cons, List.mem_nil_iff, or_false] at hc
        rcases hc with rfl | rfl
        · exact .bool _
        · exact .int _ _
  obtain ⟨S, hS0⟩ : ∃ S : V → Prop, S = fun r => r.fz.nrm = lst 1 (ints (reachT t cells)) := ⟨_, rfl⟩
  rw [← hS0]
  have hS : ∀ r, r.fz.nrm = lst 1 (ints (reachT t cells)) → S r := fun r h => by rw [hS0]; exact h
  clear hS0
  simp only [encT_eq, q_wpLs_eq_1, q_wpLs_eq_2, q_wpL_eq_1, q_exL_eq_2, q_exL_eq_5, q_exL_eq_8, q_exL_eq_28, q_look_eq_1, q_insT_eq_1, q_insO_eq_1, q_awl_eq_2, q_awl_eq_5, q_AE_thenL_eq_1, q_initT_eq_1, q_initT_eq_2, q_putK_eq_1, q_loadO_eq_1, q_isV_eq_1, q_vLoad_eq_1, q_ofRow_eq_2, q_pureRow_eq_1, q_pureRow_eq_2, q_boxK_eq_1, q_freeB_eq_1, q_freeT_eq_1, q_freeT_eq_2, q_freeO_eq_1, q_freeO_eq_2, q_V_noRef_eq_1, q_V_noRef_eq_2, q_K_noRef_eq_1, q_K_noRef_eq_3, q_O_noRef_eq_1, q_Option_map_some, q_List_map_cons, q_List_map_nil, q_List_take_succ_cons, q_List_take_zero, q_List_drop_zero, q_List_length_cons, q_List_length_nil, q_List_all_cons, q_List_all_nil, true_and, if_true, bne_iff_ne, ne_eq, Bool.and_true, Bool.or_true, Bool.false_or, Nat.reduceAdd, Nat.reduceEqDiff, Nat.reduceBEq, Nat.zero_add, Nat.le_refl, not_false_eq_true, lookT_here, lookT_next, lookO_here, lookO_next, uf39r5, uf39r12, uf39b13, uf39r15]
  refine call_s (s31 t) ?_
  by_cases h : (checkT t).2 = 0
  · obtain ⟨hc, he, hsz⟩ := sz_of_check h
    have hw := wt_of t hc
    rw [reachT, if_neg (by simp [h])] at hS
    simp only [pairV, h, q_wpLs_eq_1, q_wpLs_eq_2, q_wpL_eq_1, q_exL_eq_1, q_exL_eq_6, q_exL_eq_8, q_exL_eq_11, q_exL_eq_27, q_exL_eq_28, q_look_eq_1, q_look_eq_2, q_insT_eq_1, q_awl_eq_1, q_awl_eq_2, q_awl_eq_5, q_awl_eq_6, q_AE_thenL_eq_1, q_putK_eq_1, q_vBin_eq_1, q_resV_eq_1, q_binV_eq_1, q_binInt_eq_3, q_cutInt_eq_7, q_vExtr_eq_1, q_loadO_eq_1, q_isV_eq_1, q_vLoad_eq_1, q_vBuild_eq_1, q_vBuild_eq_2, q_rowV_eq_1, q_ofRow_eq_1, q_ofRow_eq_2, q_pureRow_eq_1, q_pureRow_eq_2, q_V_cells_eq_1, q_splice_eq_1, q_Option_map_some, q_List_map_cons, q_List_map_nil, q_List_take_succ_cons, q_List_take_zero, q_List_drop_succ_cons, q_List_drop_zero, q_List_nil_append, q_List_length_cons, q_List_length_nil, q_List_getElemQ_cons_zero, q_List_getElemQ_cons_succ, true_and, if_true, and_self, List.append_nil, Nat.reduceAdd, Nat.reduceBEq, Nat.zero_add, Nat.le_refl, q_learn_eq_1, q_condK_eq_1, q_condB_eq_2, lookT_here, lookT_next, Int.reduceBNe, lookO_here, lookO_next, uf39b9, uf39r10, uf39b11]
    refine call_r (s64 t _ hw (by omega) cells) ?_
    simp only [runV, encCell, q_wpLs_eq_1, q_wpLs_eq_2, q_wpL_eq_1, q_exL_eq_1, q_exL_eq_4, q_exL_eq_9, q_exL_eq_27, q_look_eq_1, q_insT_eq_1, q_insO_eq_1, q_putK_eq_1, q_vExtr_eq_1, q_V_cells_eq_2, q_splice_eq_1, q_stVarK_eq_1, q_storeK_eq_1, q_freeB_eq_1, q_freeT_eq_1, q_freeT_eq_2, q_freeO_eq_1, q_freeO_eq_2, q_V_noRef_eq_1, q_V_noRef_eq_2, q_V_noRef_eq_4, q_K_noRef_eq_1, q_K_noRef_eq_2, q_K_noRef_eq_3, q_O_noRef_eq_1, q_O_noRef_eq_2, q_V_noRefL_eq_1, q_V_noRefL_eq_2, q_regN_eq_2, q_V_reg_eq_3, q_V_reg_eq_4, q_V_regL_eq_1, q_V_regL_eq_2, q_freesL_eq_1, q_addsL_eq_1, q_regK_eq_1, q_retK_eq_2, q_List_map_cons, q_List_map_nil, q_List_take_zero, q_List_drop_succ_cons, q_List_drop_zero, q_List_nil_append, q_List_length_cons, q_List_length_nil, q_List_getElemQ_cons_zero, q_List_getElemQ_cons_succ, q_List_all_cons, q_List_all_nil, true_and, and_self, bne_iff_ne, ne_eq, Bool.and_eq_true, Bool.and_true, Bool.true_and, Bool.or_true, Bool.false_or, List.append_nil, Nat.reduceAdd, Nat.reduceMul, Nat.reduceEqDiff, Nat.reduceBEq, Nat.zero_add, Nat.add_zero, Nat.le_refl, not_false_eq_true, lookT_here, lookT_next, lookO_here]
    have hlk : ∃ sz, V.k (.c (lstC 1 (ints (runN t cells)))) = .k (.c (.list sz none (intRows (runN t cells)))) ∧ (runN t cells ≠ [] → sz = 1) := by
      refine ⟨_, rfl, fun h0 => ?_⟩
      cases hl : runN t cells with
      | nil => exact absurd hl h0
      | cons a l => rfl
    obtain ⟨sz, hlk, h1⟩ := hlk
    rw [hlk]
    refine ⟨sz, none, runN t cells, rfl, h1, ?_, ?_⟩
    · have := rn_len cells t; omega
    · refine hS _ ?_
      rw [← reach_eq hw cells]
      show V.k (.c (C.list 1 none (intRows (Lib.compact (sortI (runN t cells))))).norm.norm) = _
      simp only [norm_list, norm_lst, intRows_norm]
      rfl
  · rw [reachT, if_pos h] at hS
    simp only [pairV, h, q_wpLs_eq_1, q_wpLs_eq_2, q_wpL_eq_1, q_exL_eq_1, q_exL_eq_2, q_exL_eq_6, q_exL_eq_8, q_exL_eq_11, q_exL_eq_27, q_exL_eq_28, q_look_eq_1, q_look_eq_2, q_insT_eq_1, q_insO_eq_1, q_awl_eq_1, q_awl_eq_2, q_awl_eq_5, q_awl_eq_6, q_awl_eq_10, q_AE_thenL_eq_1, q_AE_thenL_eq_3, q_putK_eq_1, q_vBin_eq_1, q_resV_eq_1, q_binV_eq_1, q_binInt_eq_3, q_cutInt_eq_7, q_vExtr_eq_1, q_loadO_eq_1, q_isV_eq_1, q_vLoad_eq_1, q_vBuild_eq_1, q_vBuild_eq_2, q_rowV_eq_1, q_ofRow_eq_1, q_ofRow_eq_2, q_pureRow_eq_1, q_pureRow_eq_2, q_V_cells_eq_1, q_splice_eq_1, q_freeB_eq_1, q_freeT_eq_1, q_freeT_eq_2, q_freeO_eq_1, q_freeO_eq_2, q_V_noRef_eq_1, q_V_noRef_eq_2, q_V_noRef_eq_4, q_K_noRef_eq_1, q_K_noRef_eq_2, q_K_noRef_eq_3, q_O_noRef_eq_1, q_O_noRef_eq_2, q_V_noRefL_eq_1, q_V_noRefL_eq_2, q_Option_map_some, q_List_map_cons, q_List_map_nil, q_List_take_succ_cons, q_List_take_zero, q_List_drop_succ_cons, q_List_drop_zero, q_List_nil_append, q_List_length_cons, q_List_length_nil, q_List_getElemQ_cons_zero, q_List_getElemQ_cons_succ, q_List_all_cons, q_List_all_nil, true_and, and_true, if_true, false_implies, forall_const, and_self, bne_iff_ne, ne_eq, Bool.and_true, Bool.true_and, Bool.or_true, Bool.true_or, Bool.false_or, BEq.rfl, List.append_nil, Nat.reduceAdd, Nat.reduceEqDiff, Nat.reduceBEq, Nat.zero_add, Nat.le_refl, q_learn_eq_1, not_false_eq_true, q_condK_eq_1, condB_bne, lookT_here, lookT_next, lookO_here, lookO_next, uf39r7, uf39b8, uf39b9, uf39r10, uf39b11]
    show endK [.t 4] S .ret _ _
    simp only [q_isArrO_eq_1, q_mapT_eq_1, q_mapT_eq_2, q_mapO_eq_1, q_mapO_eq_2, q_endK_eq_2, q_endL_eq_1, q_endV_eq_1, q_resL_eq_1, q_resL_eq_2, q_resX_eq_1, q_one_eq_1, q_V_nrm_eq_1, q_V_nrm_eq_2, q_V_nrm_eq_4, q_K_nrm_eq_1, q_K_nrm_eq_3, q_V_nrmL_eq_1, q_V_nrmL_eq_2, q_O_nrm_eq_1, q_O_nrm_eq_2, q_V_owns_eq_1, q_K_owns_eq_1, q_V_toNew_eq_1, q_K_toNew_eq_2, q_C_norm_eq_4, q_C_norm_eq_5, q_C_normRow_eq_1, q_C_normRow_eq_2, q_C_normRows_eq_1, q_List_map_cons, q_List_map_nil, true_and, if_true, and_self, List.nodup_nil, List.nodup_cons, not_false_eq_true, norm_lst, normRows_T, normRows_Ce, lookT_here, lookO_here, List.not_mem_nil]
    exact hS _ rfl
end Go.Abs


set_option maxRecDepth 100000
set_option maxHeartbeats 4000000
namespace Go.Abs
open Go.Proofs
end Go.Abs


set_option maxRecDepth 100000
set_option maxHeartbeats 4000000
namespace Go.Abs
open Go.Proofs
theorem s35' (t : Term) : Spec Try.prog 35 [.agg (encT t)] (fun r => r = .k (.newl 3 1 none (ints (varsT t)))) := by
  have := s35 t
  rw [vars_eq] at this; exact this
end Go.Abs


set_option maxRecDepth 100000
set_option maxHeartbeats 4000000
namespace Go.Abs
open Go.Proofs
end Go.Abs


set_option maxRecDepth 100000
namespace Go.Abs
open Go.Proofs
theorem s22 (a b : List Int) : Spec Try.prog 22 [lst 1 (ints a), lst 1 (ints b)] (fun r => r = .bool (decide (a = b))) := by
  refine Spec.of_len hf22 fun hlen => ?_
  have hla : a.length ≤ 9223372036854775807 := by have := hlen _ (List.mem_cons_self) (lstC 1 (ints a)) (by simp [lst, V.topC]) _ _ _ rfl; simpa [ints] using this
  clear hlen
  refine Spec.of_awl hf22 okf22 (by simp) ?_
  simp only [lst, lstC, ints_len, q_wpLs_eq_1, q_wpLs_eq_2, q_wpL_eq_1, q_exL_eq_1, q_exL_eq_11, q_exL_eq_30, q_look_eq_1, q_look_eq_2, q_lookO_eq_1, q_insT_eq_1, q_awl_eq_1, q_awl_eq_2, q_awl_eq_5, q_awl_eq_6, q_awl_eq_7, q_awl_eq_10, q_AE_thenL_eq_1, q_AE_thenL_eq_3, q_initT_eq_1, q_initT_eq_2, q_putK_eq_1, q_vBin_eq_1, q_resV_eq_1, q_binV_eq_1, q_binInt_eq_3, q_cutInt_eq_7, q_vLen_eq_1, q_mapT_eq_1, q_mapT_eq_2, q_mapO_eq_1, q_endK_eq_2, q_endL_eq_1, q_endV_eq_1, q_resL_eq_1, q_resL_eq_2, q_resX_eq_1, q_one_eq_1, q_V_nrm_eq_1, q_K_nrm_eq_1, q_V_owns_eq_1, q_K_owns_eq_2, q_V_toNew_eq_1, q_K_toNew_eq_1, q_C_norm_eq_1, q_C_norm_eq_4, q_C_norm_eq_5, true_and, if_true, and_self, List.nodup_nil, Nat.reduceAdd, Nat.reduceBEq, Nat.zero_add, q_learn_eq_1, q_condK_eq_1, condB_bne, normRows_ints, ints_len, lookT_here, lookT_next, uf22, uf22b16, uf22r17, uf22b18, uf22b19, uf22r20, uf22b21, uf22b22, uf22r23, uf22b24, uf22b25, uf22r26, uf22b27]
  refine ⟨fun h => ?_, fun h => ?_⟩
  · have : a ≠ b := by rintro rfl; exact h rfl
    simp [this]
  · rw [uf22l15]
    have h : a.length = b.length := by omega
    refine awl_loop (fun i : Nat => [(0, lst 1 (ints a)), (1, lst 1 (ints b)), (5, .int .i64 i)]) (fun _ => []) (fun i => i ≤ a.length ∧ ∀ j < i, a[j]? = b[j]?) (fun i => a.length - i) 0 rfl rfl ⟨Nat.zero_le _, by simp⟩ ?_
    rintro i ⟨hi, hj⟩
    by_cases hlt : i < a.length
    · have hlt2 : i < b.length := by omega
      have c1 : (i : Int) < a.length := by omega
      have c2 : (i : Int) < b.length := by omega
      have hw : IntKind.i64.wrap ((i : Int) + 1) = (i : Int) + 1 := wrap_in (by omega) (by omega)
      simp only [lst, lstC, ints_len, ints_isEmpty, ints_at hlt, ints_at hlt2, sz_of hlt, sz_of hlt2, c1, c2, hw, not_true_eq_false, q_wpLs_eq_1, q_wpLs_eq_2, q_wpLQs_eq_1, q_wpLQs_eq_2, q_wpL_eq_1, q_wpLQ_eq_1, q_exL_eq_1, q_exL_eq_11, q_exL_eq_30, q_exLQ_eq_1, q_exLQ_eq_9, q_exLQ_eq_12, q_exLQ_eq_24, q_look_eq_1, q_look_eq_2, q_lookO_eq_1, q_insT_eq_1, q_awl_eq_1, q_awl_eq_2, q_awl_eq_3, q_awl_eq_5, q_awl_eq_6, q_awl_eq_7, q_awl_eq_10, q_AE_thenL_eq_1, q_AE_thenL_eq_3, q_AE_inBlockL_eq_1, q_AE_inBlockL_eq_3, q_putK_eq_1, q_vBin_eq_1, q_resV_eq_1, q_binV_eq_1, q_binInt_eq_3, q_cutInt_eq_1, q_cutInt_eq_7, q_cutInt_eq_8, q_vLen_eq_1, q_partV_eq_2, q_vLoad_eq_2, q_vIaddr_eq_1, q_mapT_eq_1, q_mapT_eq_2, q_mapO_eq_1, q_endK_eq_2, q_endL_eq_1, q_endV_eq_1, q_resL_eq_1, q_resL_eq_2, q_resX_eq_1, q_one_eq_1, q_V_nrm_eq_1, q_K_nrm_eq_1, q_K_nrm_eq_2, q_V_owns_eq_1, q_K_owns_eq_2, q_V_toNew_eq_1, q_K_toNew_eq_1, q_C_norm_eq_1, q_C_norm_eq_4, q_C_norm_eq_5, q_List_getD_cons_zero, true_and, if_true, and_self, List.nodup_nil, Nat.reduceBEq, Nat.zero_add, Int.toNat_natCast, Nat.le_refl, Int.natCast_nonneg, q_learn_eq_1, q_condK_eq_1, q_condB_eq_1, condB_bne, decide_true, normRows_ints, ints_len, lookT_here, lookT_next, uf22r3, uf22r4, uf22b5, uf22b6, uf22r7, uf22b8, uf22b9, uf22b10, uf22b11, uf22r12, uf22b13, uf22b14]
      refine ⟨fun hne => ?_, fun he => ?_⟩
      · have : a ≠ b := by rintro rfl; exact hne rfl
        simp [this]
      · refine Next.intro (i + 1) rfl rfl ⟨by omega, fun j hjl => ?_⟩ (by omega)
        by_cases hji : j = i
        · subst hji; simp [hlt, hlt2, he]
        · exact hj j (by omega)
    · have c1 : ¬ (i : Int) < a.length := by omega
      simp only [lst, lstC, ints_len, ints_isEmpty, c1, not_true_eq_false, not_false_eq_true, q_wpLs_eq_1, q_wpLs_eq_2, q_wpL_eq_1, q_exL_eq_1, q_exL_eq_11, q_exL_eq_30, q_look_eq_1, q_look_eq_2, q_lookO_eq_1, q_insT_eq_1, q_awl_eq_2, q_awl_eq_5, q_awl_eq_6, q_awl_eq_9, q_awl_eq_10, q_AE_thenL_eq_1, q_AE_thenL_eq_2, q_AE_inBlockL_eq_2, q_putK_eq_1, q_vBin_eq_1, q_resV_eq_1, q_binV_eq_1, q_binInt_eq_3, q_cutInt_eq_8, q_vLen_eq_1, q_mapT_eq_1, q_mapT_eq_2, q_mapO_eq_1, q_endK_eq_2, q_endL_eq_1, q_endV_eq_1, q_resL_eq_1, q_resL_eq_2, q_resX_eq_1, q_one_eq_1, q_V_nrm_eq_1, q_K_nrm_eq_1, q_V_owns_eq_1, q_K_owns_eq_2, q_V_toNew_eq_1, q_K_toNew_eq_1, q_C_norm_eq_1, q_C_norm_eq_4, q_C_norm_eq_5, true_and, if_true, and_self, List.nodup_nil, Nat.reduceBEq, q_learn_eq_1, q_condK_eq_1, q_condB_eq_2, decide_false, normRows_ints, ints_len, lookT_here, lookT_next, uf22r1, uf22b2, uf22b11, uf22r12, uf22b13, uf22b14]
      have : a = b := by
        refine List.ext_getElem? fun j => ?_
        by_cases hjl : j < i
        · exact hj j hjl
        · rw [List.getElem?_eq_none (by omega), List.getElem?_eq_none (by omega)]
      simp [this]
end Go.Abs


set_option maxRecDepth 100000
set_option maxHeartbeats 4000000
namespace Go.Abs
open Go.Proofs
def oA : Order := ⟨[], false, [], [⟨0, .mk 2 7 []⟩, ⟨6, .mk 0 3 []⟩]⟩
def oB : Order := ⟨[], false, [], [⟨0, .mk 2 15 []⟩]⟩
def oC : Order := ⟨[], false, [], [⟨0, .mk 0 3 []⟩]⟩
theorem p1 : ordersO [oA, oC, oB] 0 = (1, 11) := by decide
theorem p2 : ordersO [oA, oB] 0 = (-1, 0) := by decide
theorem s22' (l : List Int) : Spec Try.prog 22 [lst 1 (ints l), lst 1 (ints l)] (fun r => r = .bool true) := by
  have := s22 l l
  simpa using this
end Go.Abs


set_option maxRecDepth 100000
set_option maxHeartbeats 4000000
namespace Go.Abs
open Go.Proofs
def tBoth : Term := .mk 4 0 [.mk 2 15 [], .mk 2 18 []]
def tThree : Term := .mk 6 0 [.mk 2 17 [], .mk 0 3 [], .mk 0 3 []]
def tSum : Term := .mk 6 0 [.mk 2 17 [], .mk 2 0 [], .mk 0 3 []]
def tSquare : Term := .mk 11 0 [.mk 2 0 [], .mk 2 0 []]
def tNot : Term := .mk 3 0 [.mk 0 1 []]
theorem call_lit {P : Program} {f : FuncId} {xs : List AX} {vs : List V} {K : KK} {d : Nat} {ts : TS} {os : OS} {args : List V} {r : V} {X : Prop} (τ : Nat) (hs : Spec P f args (fun r' => r' = r)) (hk : retK r K (frzT τ ts os (lookO τ os)) (frzO τ os (lookO τ os)) (some d))
    (h0 : vs = xs.map (look ts) := by simp [look, lookT]) (hp : vs.all (fun v => (lendL os v).isPure) = true := by simp [lendL, lendO, lookO, V.isPure])
    (ha : vs.map (fun v => (lendL os v).norm) = args := by rfl) (h4 : vs.flatMap V.toks = [τ] := by simp [V.toks, Abs.K.toks]) (h5 : plainO (lookO τ os) := by simp [lookO, plainO]) (hr : r.scalar = false := by rfl) : X ∨ callSF P f vs xs K (some d) ts os :=
  call_o τ h0 hs hp ha h4 h5 hr hk
theorem q1 : checkT tBoth = (1, 0) := by decide
theorem q2 : checkT tNot = (0, 11) := by decide
theorem q3 : evalT tBoth (oneK 15 0) = ⟨true, 0⟩ := by kernel_rfl
theorem q4 : evalT tBoth (oneK 15 1) = ⟨false, 0⟩ := by kernel_rfl
theorem q5 : evalT tThree [] = ⟨true, 3⟩ := by kernel_rfl
theorem q6 : evalT tSum (oneK 17 1) = ⟨false, 0⟩ := by kernel_rfl
theorem q7 : reachT tBoth (oneK 15 1) = [18] := by decide
theorem q8 : reachT tSum (oneK 17 1) = [0] := by decide
theorem q9 : evalT tSquare (oneK 0 1099511627776) = ⟨true, 1099511627776⟩ := by kernel_rfl
theorem q10 : varsT tSum = [0, 17] := by decide
theorem s29 : Spec Try.prog 29 [] (fun r => r = .bool true) := by
  have c1 := s31 tBoth
  rw [q1] at c1
  have c2 := s31 tNot
  rw [q2] at c2
  have c3 := s37 tBoth (oneK 15 0)
  rw [q3] at c3
  have c4 := s37 tBoth (oneK 15 1)
  rw [q4] at c4
  have c5 := s37 tThree []
  rw [q5] at c5
  have c6 := s37 tSum (oneK 17 1)
  rw [q6] at c6
  have c7 := s39 tBoth (oneK 15 1)
  rw [q7] at c7
  have c8 := s39 tSum (oneK 17 1)
  rw [q8] at c8
  have c9 := s37 tSquare (oneK 0 1099511627776)
  rw [q9] at c9
  have c10 := s35' tSum
  rw [q10] at c10
  refine Spec.of_awlS hf29 okf29 (by simp) fun S hS => ?_
  simp only [pairV, encCV, encCell, q_wpLs_eq_1, q_wpLs_eq_2, q_wpL_eq_1, q_exL_eq_1, q_exL_eq_28, q_look_eq_2, q_insT_eq_1, q_awl_eq_2, q_awl_eq_5, q_AE_thenL_eq_1, q_initT_eq_1, q_List_map_cons, q_List_map_nil, uf29, uf29r31, uf29b32, uf29r33, uf29b34]
  refine call_r (s55 15) ?_
  simp only [pairV, encCV, encCell, q_wpLs_eq_2, q_wpL_eq_1, q_exL_eq_28, q_look_eq_2, q_insT_eq_1, q_regN_eq_2, q_V_reg_eq_4, q_freesL_eq_1, q_addsL_eq_1, q_regK_eq_1, q_retK_eq_2, q_List_map_cons, q_List_map_nil, q_List_length_nil, true_and, Nat.reduceAdd, Nat.reduceMul]
  refine call_r (s55 18) ?_
  simp only [pairV, encCV, encCell, q_wpLs_eq_2, q_wpL_eq_1, q_exL_eq_7, q_exL_eq_28, q_look_eq_1, q_look_eq_2, q_insT_eq_1, q_insO_eq_1, q_vRow_eq_2, q_vLits_eq_1, q_vLits_eq_2, q_bsK_eq_1, q_freeB_eq_1, q_freeT_eq_1, q_freeT_eq_2, q_freeO_eq_1, q_V_noRef_eq_1, q_V_noRef_eq_2, q_K_noRef_eq_1, q_regN_eq_2, q_V_reg_eq_4, q_freesL_eq_1, q_addsL_eq_1, q_regK_eq_1, q_retK_eq_2, q_List_map_cons, q_List_map_nil, q_List_foldl_cons, q_List_foldl_nil, q_List_replicate_succ, q_List_replicate_zero, q_List_set_cons_zero, q_List_set_cons_succ, q_List_length_cons, q_List_length_nil, true_and, forall_eq_or_imp, forall_eq, or_false, and_self, Bool.and_true, Bool.or_true, List.mem_cons, Nat.reduceAdd, Nat.reduceMul, Nat.reduceLT, Nat.reduceBEq, Nat.zero_add, encT_len, lookT_here, lookT_next, List.not_mem_nil]
  refine call_lit 11 (s54 4 [.mk 2 15 [], .mk 2 18 []]) ?_
  simp only [pairV, encCV, encCell, q_wpLs_eq_1, q_wpLs_eq_2, q_wpL_eq_1, q_exL_eq_4, q_exL_eq_9, q_exL_eq_28, q_look_eq_1, q_look_eq_2, q_insT_eq_1, q_insO_eq_1, q_awl_eq_2, q_awl_eq_5, q_AE_thenL_eq_1, q_V_cells_eq_2, q_splice_eq_1, q_stVarK_eq_1, q_storeK_eq_1, q_mapT_eq_1, q_mapT_eq_2, q_mapO_eq_1, q_delO_eq_1, q_delO_eq_2, q_freeB_eq_1, q_freeT_eq_1, q_freeT_eq_2, q_freeO_eq_1, q_V_noRef_eq_1, q_V_noRef_eq_2, q_K_noRef_eq_1, q_regN_eq_2, q_V_reg_eq_4, q_freesL_eq_1, q_addsL_eq_1, q_regK_eq_1, q_retK_eq_2, q_List_map_cons, q_List_map_nil, q_List_take_zero, q_List_drop_succ_cons, q_List_drop_zero, q_List_nil_append, q_List_length_cons, q_List_length_nil, true_and, if_true, Bool.and_true, Bool.or_true, List.append_nil, Nat.reduceAdd, Nat.reduceMul, Nat.reduceBEq, Nat.zero_add, Nat.le_refl, List.length_map, encT_len, lookT_here, lookT_next, lookO_here, z_V_k, z_V_agg, z_K_c, z_frzT, z_frzO, z_K_own_arr, uf29r29, uf29b30]
  refine call_r (s55 17) ?_
  simp only [pairV, encCV, encCell, q_wpLs_eq_2, q_wpL_eq_1, q_exL_eq_28, q_look_eq_2, q_insT_eq_1, q_regN_eq_2, q_V_reg_eq_4, q_freesL_eq_1, q_addsL_eq_1, q_regK_eq_1, q_retK_eq_2, q_List_map_cons, q_List_map_nil, q_List_length_nil, true_and, Nat.reduceAdd, Nat.reduceMul]
  refine call_r (s56 3) ?_
  simp only [pairV, encCV, encCell, q_wpLs_eq_2, q_wpL_eq_1, q_exL_eq_28, q_look_eq_2, q_insT_eq_1, q_regN_eq_2, q_V_reg_eq_4, q_freesL_eq_1, q_addsL_eq_1, q_regK_eq_1, q_retK_eq_2, q_List_map_cons, q_List_map_nil, q_List_length_nil, true_and, Nat.reduceAdd, Nat.reduceMul]
  refine call_r (s56 3) ?_
  simp only [pairV, encCV, encCell, q_wpLs_eq_2, q_wpL_eq_1, q_exL_eq_7, q_exL_eq_28, q_look_eq_1, q_look_eq_2, q_insT_eq_1, q_insO_eq_1, q_vRow_eq_2, q_vLits_eq_1, q_vLits_eq_2, q_bsK_eq_1, q_freeB_eq_1, q_freeT_eq_1, q_freeT_eq_2, q_freeO_eq_1, q_freeO_eq_2, q_V_noRef_eq_1, q_V_noRef_eq_2, q_K_noRef_eq_1, q_K_noRef_eq_3, q_O_noRef_eq_1, q_regN_eq_2, q_V_reg_eq_4, q_freesL_eq_1, q_addsL_eq_1, q_regK_eq_1, q_retK_eq_2, q_List_map_cons, q_List_map_nil, q_List_foldl_cons, q_List_foldl_nil, q_List_replicate_succ, q_List_replicate_zero, q_List_set_cons_zero, q_List_set_cons_succ, q_List_length_cons, q_List_length_nil, q_List_all_cons, q_List_all_nil, true_and, forall_eq_or_imp, forall_eq, or_false, and_self, bne_iff_ne, ne_eq, Bool.and_true, Bool.true_and, Bool.or_true, Bool.false_or, List.mem_cons, Nat.reduceAdd, Nat.reduceMul, Nat.reduceEqDiff, Nat.reduceLT, Nat.reduceBEq, Nat.zero_add, not_false_eq_true, encT_len, lookT_here, lookT_next, List.not_mem_nil, r_all_noRef]
  refine call_lit 16 (s54 6 [.mk 2 17 [], .mk 0 3 [], .mk 0 3 []]) ?_
  simp only [pairV, encCV, encCell, q_wpLs_eq_1, q_wpLs_eq_2, q_wpL_eq_1, q_exL_eq_4, q_exL_eq_9, q_exL_eq_28, q_look_eq_1, q_look_eq_2, q_insT_eq_1, q_insO_eq_1, q_awl_eq_2, q_awl_eq_5, q_AE_thenL_eq_1, q_V_cells_eq_2, q_splice_eq_1, q_stVarK_eq_1, q_storeK_eq_1, q_mapT_eq_1, q_mapT_eq_2, q_mapO_eq_1, q_mapO_eq_2, q_delO_eq_1, q_delO_eq_2, q_freeB_eq_1, q_freeT_eq_1, q_freeT_eq_2, q_freeO_eq_1, q_freeO_eq_2, q_V_noRef_eq_1, q_V_noRef_eq_2, q_K_noRef_eq_1, q_K_noRef_eq_3, q_O_noRef_eq_1, q_regN_eq_2, q_V_reg_eq_4, q_freesL_eq_1, q_addsL_eq_1, q_regK_eq_1, q_retK_eq_2, q_List_map_cons, q_List_map_nil, q_List_take_zero, q_List_drop_succ_cons, q_List_drop_zero, q_List_nil_append, q_List_length_cons, q_List_length_nil, q_List_all_cons, q_List_all_nil, true_and, if_true, if_false, bne_iff_ne, ne_eq, Bool.and_true, Bool.true_and, Bool.or_true, Bool.false_or, List.append_nil, Nat.reduceAdd, Nat.reduceMul, Nat.reduceEqDiff, Nat.reduceBEq, Nat.zero_add, Nat.le_refl, not_false_eq_true, List.length_map, encT_len, lookT_here, lookT_next, lookO_here, z_V_k, z_V_agg, z_K_c, z_O_var, z_frzT, z_frzO, r_all_noRef, r_map_frz, z_K_own_arr, z_K_ptr_arr, uf29r27, uf29b28]
  refine call_r (s55 17) ?_
  simp only [pairV, encCV, encCell, q_wpLs_eq_2, q_wpL_eq_1, q_exL_eq_28, q_look_eq_2, q_insT_eq_1, q_regN_eq_2, q_V_reg_eq_4, q_freesL_eq_1, q_addsL_eq_1, q_regK_eq_1, q_retK_eq_2, q_List_map_cons, q_List_map_nil, q_List_length_nil, true_and, Nat.reduceAdd, Nat.reduceMul]
  refine call_r (s55 0) ?_
  simp only [pairV, encCV, encCell, q_wpLs_eq_2, q_wpL_eq_1, q_exL_eq_28, q_look_eq_2, q_insT_eq_1, q_regN_eq_2, q_V_reg_eq_4, q_freesL_eq_1, q_addsL_eq_1, q_regK_eq_1, q_retK_eq_2, q_List_map_cons, q_List_map_nil, q_List_length_nil, true_and, Nat.reduceAdd, Nat.reduceMul]
  refine call_r (s56 3) ?_
  simp only [pairV, encCV, encCell, q_wpLs_eq_2, q_wpL_eq_1, q_exL_eq_7, q_exL_eq_28, q_look_eq_1, q_look_eq_2, q_insT_eq_1, q_insO_eq_1, q_vRow_eq_2, q_vLits_eq_1, q_vLits_eq_2, q_bsK_eq_1, q_freeB_eq_1, q_freeT_eq_1, q_freeT_eq_2, q_freeO_eq_1, q_freeO_eq_2, q_V_noRef_eq_1, q_V_noRef_eq_2, q_K_noRef_eq_1, q_K_noRef_eq_3, q_O_noRef_eq_1, q_regN_eq_2, q_V_reg_eq_4, q_freesL_eq_1, q_addsL_eq_1, q_regK_eq_1, q_retK_eq_2, q_List_map_cons, q_List_map_nil, q_List_foldl_cons, q_List_foldl_nil, q_List_replicate_succ, q_List_replicate_zero, q_List_set_cons_zero, q_List_set_cons_succ, q_List_length_cons, q_List_length_nil, q_List_all_cons, q_List_all_nil, true_and, forall_eq_or_imp, forall_eq, or_false, and_self, bne_iff_ne, ne_eq, Bool.and_eq_true, Bool.and_true, Bool.true_and, Bool.or_true, Bool.false_or, List.mem_cons, Nat.reduceAdd, Nat.reduceMul, Nat.reduceEqDiff, Nat.reduceLT, Nat.reduceBEq, Nat.zero_add, not_false_eq_true, encT_len, lookT_here, lookT_next, List.not_mem_nil, r_all_noRef]
  refine call_lit 21 (s54 6 [.mk 2 17 [], .mk 2 0 [], .mk 0 3 []]) ?_
  simp only [pairV, encCV, encCell, q_wpLs_eq_1, q_wpLs_eq_2, q_wpL_eq_1, q_exL_eq_4, q_exL_eq_9, q_exL_eq_28, q_look_eq_1, q_look_eq_2, q_insT_eq_1, q_insO_eq_1, q_awl_eq_2, q_awl_eq_5, q_AE_thenL_eq_1, q_V_cells_eq_2, q_splice_eq_1, q_stVarK_eq_1, q_storeK_eq_1, q_mapT_eq_1, q_mapT_eq_2, q_mapO_eq_1, q_mapO_eq_2, q_delO_eq_1, q_delO_eq_2, q_freeB_eq_1, q_freeT_eq_1, q_freeT_eq_2, q_freeO_eq_1, q_freeO_eq_2, q_V_noRef_eq_1, q_V_noRef_eq_2, q_K_noRef_eq_1, q_K_noRef_eq_3, q_O_noRef_eq_1, q_regN_eq_2, q_V_reg_eq_4, q_freesL_eq_1, q_addsL_eq_1, q_regK_eq_1, q_retK_eq_2, q_List_map_cons, q_List_map_nil, q_List_take_zero, q_List_drop_succ_cons, q_List_drop_zero, q_List_nil_append, q_List_length_cons, q_List_length_nil, q_List_all_cons, q_List_all_nil, true_and, if_true, if_false, and_self, bne_iff_ne, ne_eq, Bool.and_eq_true, Bool.and_true, Bool.true_and, Bool.or_true, Bool.false_or, List.append_nil, Nat.reduceAdd, Nat.reduceMul, Nat.reduceEqDiff, Nat.reduceBEq, Nat.zero_add, Nat.le_refl, not_false_eq_true, List.length_map, encT_len, lookT_here, lookT_next, lookO_here, z_V_k, z_V_agg, z_K_c, z_O_var, z_frzT, z_frzO, r_all_noRef, r_map_frz, z_K_own_arr, z_K_ptr_arr, uf29r25, uf29b26]
  refine call_r (s55 0) ?_
  simp only [pairV, encCV, encCell, q_wpLs_eq_2, q_wpL_eq_1, q_exL_eq_28, q_look_eq_2, q_insT_eq_1, q_regN_eq_2, q_V_reg_eq_4, q_freesL_eq_1, q_addsL_eq_1, q_regK_eq_1, q_retK_eq_2, q_List_map_cons, q_List_map_nil, q_List_length_nil, true_and, Nat.reduceAdd, Nat.reduceMul]
  refine call_r (s55 0) ?_
  simp only [pairV, encCV, encCell, q_wpLs_eq_2, q_wpL_eq_1, q_exL_eq_7, q_exL_eq_28, q_look_eq_1, q_look_eq_2, q_insT_eq_1, q_insO_eq_1, q_vRow_eq_2, q_vLits_eq_1, q_vLits_eq_2, q_bsK_eq_1, q_freeB_eq_1, q_freeT_eq_1, q_freeT_eq_2, q_freeO_eq_1, q_freeO_eq_2, q_V_noRef_eq_1, q_V_noRef_eq_2, q_K_noRef_eq_1, q_K_noRef_eq_3, q_O_noRef_eq_1, q_regN_eq_2, q_V_reg_eq_4, q_freesL_eq_1, q_addsL_eq_1, q_regK_eq_1, q_retK_eq_2, q_List_map_cons, q_List_map_nil, q_List_foldl_cons, q_List_foldl_nil, q_List_replicate_succ, q_List_replicate_zero, q_List_set_cons_zero, q_List_set_cons_succ, q_List_length_cons, q_List_length_nil, q_List_all_cons, q_List_all_nil, true_and, forall_eq_or_imp, forall_eq, or_false, and_self, bne_iff_ne, ne_eq, Bool.and_eq_true, Bool.and_true, Bool.true_and, Bool.or_true, Bool.false_or, List.mem_cons, Nat.reduceAdd, Nat.reduceMul, Nat.reduceEqDiff, Nat.reduceLT, Nat.reduceBEq, Nat.zero_add, not_false_eq_true, encT_len, lookT_here, lookT_next, List.not_mem_nil, r_all_noRef]
  refine call_lit 25 (s54 11 [.mk 2 0 [], .mk 2 0 []]) ?_
  simp only [pairV, encCV, encCell, q_wpLs_eq_1, q_wpLs_eq_2, q_wpL_eq_1, q_exL_eq_4, q_exL_eq_8, q_exL_eq_9, q_exL_eq_28, q_look_eq_1, q_insT_eq_1, q_insO_eq_1, q_awl_eq_2, q_awl_eq_5, q_AE_thenL_eq_1, q_putK_eq_1, q_loadO_eq_1, q_isV_eq_1, q_vLoad_eq_1, q_V_cells_eq_2, q_splice_eq_1, q_stVarK_eq_1, q_storeK_eq_1, q_mapT_eq_1, q_mapT_eq_2, q_mapO_eq_1, q_mapO_eq_2, q_delO_eq_1, q_delO_eq_2, q_freeB_eq_1, q_freeT_eq_1, q_freeT_eq_2, q_freeO_eq_1, q_freeO_eq_2, q_V_noRef_eq_1, q_V_noRef_eq_2, q_K_noRef_eq_1, q_K_noRef_eq_3, q_O_noRef_eq_1, q_regN_eq_2, q_V_reg_eq_4, q_freesL_eq_1, q_addsL_eq_1, q_regK_eq_1, q_retK_eq_2, q_List_map_cons, q_List_map_nil, q_List_take_zero, q_List_drop_succ_cons, q_List_drop_zero, q_List_nil_append, q_List_length_cons, q_List_length_nil, q_List_all_cons, q_List_all_nil, true_and, if_true, if_false, and_self, bne_iff_ne, ne_eq, Bool.and_eq_true, Bool.and_true, Bool.true_and, Bool.or_true, Bool.false_or, List.append_nil, Nat.reduceAdd, Nat.reduceMul, Nat.reduceEqDiff, Nat.reduceBEq, Nat.zero_add, Nat.le_refl, not_false_eq_true, List.length_map, r_ofRow_take, encT_len, lookT_here, lookT_next, lookO_here, lookO_next, z_V_k, z_V_agg, z_K_c, z_O_var, z_frzT, z_frzO, r_all_noRef, r_map_frz, z_K_own_arr, z_K_ptr_arr, uf29r23, uf29b24]
  refine call_s c1 ?_ (ha := by rfl)
  simp only [pairV, encCV, encCell, q_wpLs_eq_1, q_wpLs_eq_2, q_wpL_eq_1, q_exL_eq_1, q_exL_eq_27, q_exL_eq_28, q_look_eq_1, q_look_eq_2, q_insT_eq_1, q_awl_eq_2, q_awl_eq_5, q_AE_thenL_eq_1, q_putK_eq_1, q_vExtr_eq_1, q_List_map_cons, q_List_map_nil, q_List_getElemQ_cons_zero, q_List_getElemQ_cons_succ, true_and, Nat.reduceBEq, lookT_here, lookT_next, uf29r21, uf29b22]
  refine call_r (s56 1) ?_
  simp only [pairV, encCV, encCell, q_wpLs_eq_2, q_wpL_eq_1, q_exL_eq_7, q_exL_eq_28, q_look_eq_1, q_look_eq_2, q_insT_eq_1, q_insO_eq_1, q_vRow_eq_2, q_vLits_eq_1, q_vLits_eq_2, q_bsK_eq_1, q_freeB_eq_1, q_freeT_eq_1, q_freeT_eq_2, q_freeO_eq_1, q_freeO_eq_2, q_V_noRef_eq_1, q_V_noRef_eq_2, q_V_noRef_eq_4, q_K_noRef_eq_1, q_K_noRef_eq_3, q_O_noRef_eq_1, q_V_noRefL_eq_1, q_V_noRefL_eq_2, q_regN_eq_2, q_V_reg_eq_4, q_freesL_eq_1, q_addsL_eq_1, q_regK_eq_1, q_retK_eq_2, q_List_map_cons, q_List_map_nil, q_List_foldl_cons, q_List_foldl_nil, q_List_replicate_succ, q_List_replicate_zero, q_List_set_cons_zero, q_List_length_cons, q_List_length_nil, q_List_all_cons, q_List_all_nil, true_and, forall_eq, or_false, and_self, bne_iff_ne, ne_eq, Bool.and_eq_true, Bool.and_true, Bool.true_and, Bool.or_true, Bool.false_or, List.mem_cons, Nat.reduceAdd, Nat.reduceMul, Nat.reduceEqDiff, Nat.reduceLT, Nat.reduceBEq, Nat.zero_add, not_false_eq_true, encT_len, lookT_here, List.not_mem_nil, r_all_noRef]
  refine call_lit 34 (s54 3 [.mk 0 1 []]) ?_
  simp only [pairV, encCV, encCell, q_wpLs_eq_2, q_wpL_eq_1, q_exL_eq_28, q_look_eq_1, q_insT_eq_1, q_mapT_eq_1, q_mapT_eq_2, q_mapO_eq_1, q_mapO_eq_2, q_delO_eq_1, q_delO_eq_2, q_regN_eq_2, q_V_reg_eq_4, q_freesL_eq_1, q_addsL_eq_1, q_regK_eq_1, q_retK_eq_2, q_List_map_cons, q_List_map_nil, q_List_length_nil, true_and, if_true, if_false, Nat.reduceAdd, Nat.reduceMul, Nat.reduceEqDiff, lookT_here, lookO_here, z_V_k, z_V_agg, z_V_tup, z_K_c, z_O_var, z_frzT, z_frzO, r_map_frz, z_K_own_arr, z_K_ptr_arr]
  refine call_s c2 ?_ (ha := by rfl)
  simp only [pairV, encCV, encCell, q_wpLs_eq_1, q_wpLs_eq_2, q_wpLQs_eq_2, q_wpL_eq_1, q_wpLQ_eq_1, q_AOp_dst_eq_1, q_AOp_dst_eq_10, q_exL_eq_1, q_exL_eq_3, q_exL_eq_11, q_exL_eq_27, q_exLQ_eq_9, q_exLQ_eq_29, q_look_eq_1, q_look_eq_2, q_insT_eq_1, q_awl_eq_1, q_awl_eq_2, q_awl_eq_3, q_awl_eq_5, q_awl_eq_6, q_AE_thenL_eq_1, q_putK_eq_1, q_vBin_eq_1, q_resV_eq_1, q_binV_eq_1, q_binInt_eq_3, q_cutInt_eq_7, q_vExtr_eq_1, q_loadO_eq_1, q_isV_eq_1, q_vLoad_eq_1, q_vPick_eq_1, q_Bool_not_false, q_List_map_cons, q_List_map_nil, q_List_drop_zero, q_List_getElemQ_cons_zero, q_List_getElemQ_cons_succ, true_and, if_true, if_false, Bool.false_eq_true, Nat.reduceBEq, Nat.zero_add, Nat.le_refl, q_learn_eq_1, q_guardP_eq_2, q_condK_eq_1, q_condB_eq_2, q_exK_eq_1, List.length_map, r_ofRow_take, encT_len, lookT_here, lookT_next, Int.reduceBNe, lookO_here, lookO_next, uf29r12, uf29b13, uf29b14, uf29b17, uf29r18, uf29b19, uf29b20]
  refine callQ_l (s57 15 0 (by decide)) ?_ (ha := by rfl)
  simp only [pairV, encCV, encCell, q_wpLQs_eq_2, q_wpLQ_eq_1, q_exLQ_eq_29, q_look_eq_1, q_insT_eq_1, q_V_fz_eq_1, q_K_fz_eq_1, q_List_map_cons, q_List_map_nil, Nat.reduceBEq, lookT_here, lookT_next]
  refine callQ_l c3 ?_ (ha := by rfl)
  simp only [pairV, encCV, encCell, q_wpLQs_eq_2, q_wpLQ_eq_1, q_AOp_dst_eq_8, q_AOp_dst_eq_32, q_exLQ_eq_1, q_exLQ_eq_6, q_exLQ_eq_9, q_exLQ_eq_14, q_exLQ_eq_29, q_look_eq_1, q_look_eq_2, q_insT_eq_1, q_putK_eq_1, q_vEqAgg_eq_1, q_mapV_eq_1, q_eqRow_eq_1, q_eqRow_eq_2, q_eqC_eq_1, q_eqC_eq_2, q_loadO_eq_1, q_isV_eq_1, q_vLoad_eq_1, q_vBuild_eq_1, q_vBuild_eq_2, q_rowV_eq_1, q_ofRow_eq_2, q_pureRow_eq_1, q_pureRow_eq_2, q_V_cells_eq_1, q_splice_eq_1, q_V_fz_eq_2, q_Bool_not_true, q_Bool_not_false, q_Option_map_some, q_List_map_cons, q_List_map_nil, q_List_take_zero, q_List_drop_succ_cons, q_List_drop_zero, q_List_nil_append, q_List_cons_append, q_List_length_cons, q_List_length_nil, true_and, if_true, and_self, Bool.and_true, BEq.rfl, Nat.reduceAdd, Nat.reduceLeDiff, Nat.reduceBEq, Nat.zero_add, Nat.le_refl, q_guardP_eq_2, q_condB_eq_2, q_exKQ_eq_1, List.length_map, r_ofRow_take, encT_len, lookT_here, lookT_next, lookO_here, lookO_next, Option.bind_some]
  refine callQ_l (s57 15 1 (by decide)) ?_ (ha := by rfl)
  simp only [pairV, encCV, encCell, q_wpLQs_eq_2, q_wpLQ_eq_1, q_AOp_dst_eq_32, q_exLQ_eq_29, q_look_eq_1, q_insT_eq_1, q_V_fz_eq_1, q_K_fz_eq_1, q_Bool_not_false, q_List_map_cons, q_List_map_nil, Nat.reduceBEq, q_guardP_eq_2, q_condB_eq_2, q_exKQ_eq_1, lookT_here, lookT_next]
  refine callQ_l c4 ?_ (ha := by rfl)
  simp only [pairV, encCV, encCell, q_wpLQs_eq_1, q_wpLQs_eq_2, q_wpLQ_eq_1, q_AOp_dst_eq_21, q_exLQ_eq_3, q_exLQ_eq_9, q_exLQ_eq_23, q_exLQ_eq_29, q_look_eq_1, q_look_eq_2, q_insT_eq_1, q_awl_eq_1, q_awl_eq_3, q_awl_eq_5, q_awl_eq_6, q_AE_thenL_eq_1, q_putK_eq_1, q_vField_eq_1, q_loadO_eq_1, q_isV_eq_1, q_vLoad_eq_1, q_vPick_eq_1, q_ofRow_eq_1, q_pureRow_eq_1, q_pureRow_eq_2, q_V_fz_eq_2, q_Bool_not_false, q_Option_map_some, q_List_map_cons, q_List_map_nil, q_List_take_succ_cons, q_List_take_zero, q_List_drop_zero, q_List_length_cons, q_List_length_nil, true_and, if_false, Bool.false_eq_true, Nat.reduceAdd, Nat.reduceLeDiff, Nat.reduceBEq, Nat.zero_add, Nat.le_refl, q_learn_eq_1, q_guardP_eq_2, q_condK_eq_1, q_condB_eq_2, q_exKQ_eq_1, List.length_map, r_ofRow_take, encT_len, lookT_here, lookT_next, lookO_here, lookO_next, uf29r6, uf29b7, uf29b8, uf29b11]
  refine callQ_l c5 ?_ (ha := by rfl)
  simp only [pairV, encCV, encCell, q_wpLQs_eq_2, q_wpLQ_eq_1, q_AOp_dst_eq_8, q_AOp_dst_eq_32, q_exLQ_eq_1, q_exLQ_eq_6, q_exLQ_eq_9, q_exLQ_eq_14, q_exLQ_eq_29, q_look_eq_1, q_look_eq_2, q_insT_eq_1, q_putK_eq_1, q_vEqAgg_eq_1, q_mapV_eq_1, q_eqRow_eq_1, q_eqRow_eq_2, q_eqC_eq_1, q_eqC_eq_2, q_loadO_eq_1, q_isV_eq_1, q_vLoad_eq_1, q_vBuild_eq_1, q_vBuild_eq_2, q_rowV_eq_1, q_ofRow_eq_2, q_pureRow_eq_1, q_pureRow_eq_2, q_V_cells_eq_1, q_splice_eq_1, q_V_fz_eq_2, q_Bool_not_true, q_Bool_not_false, q_Option_map_some, q_List_map_cons, q_List_map_nil, q_List_take_succ_cons, q_List_take_zero, q_List_drop_succ_cons, q_List_drop_zero, q_List_nil_append, q_List_cons_append, q_List_length_cons, q_List_length_nil, true_and, if_true, and_self, Bool.and_true, BEq.rfl, List.append_nil, Nat.reduceAdd, Nat.reduceLeDiff, Nat.reduceBEq, Nat.zero_add, Nat.le_refl, q_guardP_eq_2, q_condB_eq_2, q_exKQ_eq_1, List.length_map, r_ofRow_take, encT_len, lookT_here, lookT_next, lookO_here, lookO_next, Option.bind_some]
  refine callQ_l (s57 17 1 (by decide)) ?_ (ha := by rfl)
  simp only [pairV, encCV, encCell, q_wpLQs_eq_2, q_wpLQ_eq_1, q_AOp_dst_eq_32, q_exLQ_eq_29, q_look_eq_1, q_insT_eq_1, q_V_fz_eq_1, q_K_fz_eq_1, q_Bool_not_false, q_List_map_cons, q_List_map_nil, Nat.reduceBEq, q_guardP_eq_2, q_condB_eq_2, q_exKQ_eq_1, lookT_here, lookT_next]
  refine callQ_l c6 ?_ (ha := by rfl)
  simp only [pairV, encCV, encCell, q_wpLQs_eq_1, q_wpLQs_eq_2, q_wpLQ_eq_1, q_AOp_dst_eq_21, q_exLQ_eq_3, q_exLQ_eq_9, q_exLQ_eq_23, q_exLQ_eq_29, q_look_eq_1, q_look_eq_2, q_insT_eq_1, q_awl_eq_1, q_awl_eq_3, q_awl_eq_5, q_awl_eq_6, q_AE_thenL_eq_1, q_putK_eq_1, q_vField_eq_1, q_loadO_eq_1, q_isV_eq_1, q_vLoad_eq_1, q_vPick_eq_1, q_ofRow_eq_1, q_pureRow_eq_1, q_pureRow_eq_2, q_V_fz_eq_2, q_Bool_not_false, q_Option_map_some, q_List_map_cons, q_List_map_nil, q_List_take_succ_cons, q_List_take_zero, q_List_drop_zero, q_List_length_cons, q_List_length_nil, true_and, if_false, Bool.false_eq_true, Nat.reduceAdd, Nat.reduceLeDiff, Nat.reduceBEq, Nat.zero_add, Nat.le_refl, q_learn_eq_1, q_guardP_eq_2, q_condK_eq_1, q_condB_eq_2, q_exKQ_eq_1, List.length_map, r_ofRow_take, encT_len, lookT_here, lookT_next, lookO_here, lookO_next, uf29r1, uf29b2, uf29b5]
  refine callQ_l (s57 15 1 (by decide)) ?_ (ha := by rfl)
  simp only [pairV, encCV, encCell, q_wpLQs_eq_2, q_wpLQ_eq_1, q_exLQ_eq_29, q_look_eq_1, q_insT_eq_1, q_V_fz_eq_1, q_K_fz_eq_1, q_List_map_cons, q_List_map_nil, Nat.reduceBEq, lookT_here, lookT_next]
  refine callQ_l c7 ?_ (ha := by rfl)
  simp only [pairV, encCV, encCell, q_wpLQs_eq_2, q_wpLQ_eq_1, q_exLQ_eq_8, q_exLQ_eq_29, q_look_eq_1, q_look_eq_2, q_insT_eq_1, q_vRow_eq_1, q_vLits_eq_1, q_vLits_eq_2, q_bsQ_eq_1, q_V_fz_eq_1, q_K_fz_eq_2, q_List_map_cons, q_List_map_nil, q_List_foldl_cons, q_List_foldl_nil, q_List_replicate_succ, q_List_replicate_zero, q_List_set_cons_zero, q_List_length_cons, q_List_length_nil, true_and, forall_eq, or_false, and_self, List.mem_cons, Nat.reduceLT, Nat.reduceBEq, Nat.zero_add, lookT_here, lookT_next, List.not_mem_nil]
  refine callQ_s (s22' [18]) ?_ (ha := by rfl)
  simp only [pairV, encCV, encCell, q_wpLQs_eq_2, q_wpLQ_eq_1, q_AOp_dst_eq_8, q_AOp_dst_eq_32, q_exLQ_eq_1, q_exLQ_eq_9, q_exLQ_eq_29, q_look_eq_1, q_look_eq_2, q_insT_eq_1, q_putK_eq_1, q_loadO_eq_1, q_isV_eq_1, q_vLoad_eq_1, q_V_fz_eq_1, q_K_fz_eq_2, q_Bool_not_true, q_List_map_cons, q_List_map_nil, q_List_drop_zero, true_and, Nat.reduceBEq, Nat.zero_add, Nat.le_refl, q_guardP_eq_1, q_condB_eq_1, q_exKQ_eq_1, List.length_map, r_ofRow_take, encT_len, lookT_here, lookT_next, lookO_here, lookO_next]
  refine callQ_l (s57 17 1 (by decide)) ?_ (ha := by rfl)
  simp only [pairV, encCV, encCell, q_wpLQs_eq_2, q_wpLQ_eq_1, q_AOp_dst_eq_32, q_exLQ_eq_29, q_look_eq_1, q_insT_eq_1, q_V_fz_eq_1, q_K_fz_eq_1, q_Bool_not_true, q_List_map_cons, q_List_map_nil, Nat.reduceBEq, q_guardP_eq_1, q_condB_eq_1, q_exKQ_eq_1, lookT_here, lookT_next]
  refine callQ_l c8 ?_ (ha := by rfl)
  simp only [pairV, encCV, encCell, q_wpLQs_eq_2, q_wpLQ_eq_1, q_AOp_dst_eq_7, q_AOp_dst_eq_32, q_exLQ_eq_8, q_exLQ_eq_29, q_look_eq_1, q_look_eq_2, q_insT_eq_1, q_vRow_eq_1, q_vLits_eq_1, q_vLits_eq_2, q_bsQ_eq_1, q_V_fz_eq_1, q_K_fz_eq_2, q_Bool_not_true, q_List_map_cons, q_List_map_nil, q_List_foldl_cons, q_List_foldl_nil, q_List_replicate_succ, q_List_replicate_zero, q_List_set_cons_zero, q_List_length_cons, q_List_length_nil, true_and, forall_eq, or_false, and_self, List.mem_cons, Nat.reduceLT, Nat.reduceBEq, Nat.zero_add, q_guardP_eq_1, q_condB_eq_1, q_exKQ_eq_1, lookT_here, lookT_next, List.not_mem_nil]
  refine callQ_s (s22' [0]) ?_ (ha := by rfl)
  simp only [pairV, encCV, encCell, q_wpLQs_eq_2, q_wpLQ_eq_1, q_AOp_dst_eq_8, q_AOp_dst_eq_32, q_exLQ_eq_1, q_exLQ_eq_3, q_exLQ_eq_9, q_exLQ_eq_29, q_look_eq_1, q_look_eq_2, q_insT_eq_1, q_putK_eq_1, q_loadO_eq_1, q_isV_eq_1, q_vLoad_eq_1, q_vPick_eq_1, q_V_fz_eq_1, q_K_fz_eq_2, q_Bool_not_true, q_List_map_cons, q_List_map_nil, q_List_drop_zero, true_and, if_true, Nat.reduceBEq, Nat.zero_add, Nat.le_refl, q_guardP_eq_1, q_condB_eq_1, q_exKQ_eq_1, List.length_map, r_ofRow_take, encT_len, lookT_here, lookT_next, lookO_here]
  refine callQ_l (s57 0 1099511627776 (by decide)) ?_ (ha := by rfl)
  simp only [pairV, encCV, encCell, q_wpLQs_eq_2, q_wpLQ_eq_1, q_AOp_dst_eq_32, q_exLQ_eq_29, q_look_eq_1, q_insT_eq_1, q_V_fz_eq_1, q_K_fz_eq_1, q_Bool_not_true, q_List_map_cons, q_List_map_nil, Nat.reduceBEq, q_guardP_eq_1, q_condB_eq_1, q_exKQ_eq_1, lookT_here, lookT_next]
  refine callQ_l c9 ?_ (ha := by rfl)
  simp only [pairV, encCV, encCell, q_wpLQs_eq_2, q_wpLQ_eq_1, q_AOp_dst_eq_6, q_AOp_dst_eq_8, q_AOp_dst_eq_12, q_AOp_dst_eq_32, q_exLQ_eq_1, q_exLQ_eq_3, q_exLQ_eq_6, q_exLQ_eq_9, q_exLQ_eq_14, q_exLQ_eq_29, q_look_eq_1, q_look_eq_2, q_insT_eq_1, q_putK_eq_1, q_vEqAgg_eq_1, q_mapV_eq_1, q_eqRow_eq_1, q_eqRow_eq_2, q_eqC_eq_1, q_eqC_eq_2, q_loadO_eq_1, q_isV_eq_1, q_vLoad_eq_1, q_vPick_eq_1, q_vBuild_eq_1, q_vBuild_eq_2, q_rowV_eq_1, q_ofRow_eq_2, q_pureRow_eq_1, q_pureRow_eq_2, q_V_cells_eq_1, q_splice_eq_1, q_V_fz_eq_2, q_Bool_not_true, q_Option_map_some, q_List_map_cons, q_List_map_nil, q_List_take_succ_cons, q_List_take_zero, q_List_drop_succ_cons, q_List_drop_zero, q_List_nil_append, q_List_cons_append, q_List_length_cons, q_List_length_nil, true_and, if_true, if_false, Bool.false_eq_true, and_self, Bool.and_true, BEq.rfl, List.append_nil, Nat.reduceAdd, Nat.reduceLeDiff, Nat.reduceBEq, Nat.zero_add, Nat.le_refl, q_guardP_eq_1, q_condB_eq_1, q_exKQ_eq_1, List.length_map, r_ofRow_take, encT_len, lookT_here, lookT_next, lookO_here, lookO_next, Option.bind_some]
  refine callQ_l c10 ?_ (ha := by rfl)
  simp only [pairV, encCV, encCell, q_wpLQs_eq_2, q_wpLQ_eq_1, q_AOp_dst_eq_7, q_AOp_dst_eq_32, q_exLQ_eq_8, q_exLQ_eq_29, q_look_eq_1, q_look_eq_2, q_insT_eq_1, q_vRow_eq_1, q_vLits_eq_1, q_vLits_eq_2, q_bsQ_eq_1, q_V_fz_eq_1, q_K_fz_eq_1, q_Bool_not_true, q_List_map_cons, q_List_map_nil, q_List_foldl_cons, q_List_foldl_nil, q_List_replicate_succ, q_List_replicate_zero, q_List_set_cons_zero, q_List_set_cons_succ, q_List_length_cons, q_List_length_nil, true_and, forall_eq_or_imp, forall_eq, or_false, and_self, List.mem_cons, Nat.reduceAdd, Nat.reduceLT, Nat.reduceBEq, Nat.zero_add, q_guardP_eq_1, q_condB_eq_1, q_exKQ_eq_1, lookT_here, lookT_next, List.not_mem_nil]
  refine callQ_s (s22' [0, 17]) ?_ (ha := by rfl)
  simp only [pairV, encCV, encCell, q_wpLQs_eq_1, q_wpLQs_eq_2, q_wpLQ_eq_1, q_exLQ_eq_1, q_exLQ_eq_3, q_look_eq_1, q_look_eq_2, q_insT_eq_1, q_awl_eq_10, q_putK_eq_1, q_vPick_eq_1, q_mapT_eq_1, q_mapT_eq_2, q_mapO_eq_1, q_mapO_eq_2, q_endK_eq_2, q_endL_eq_1, q_endV_eq_1, q_resL_eq_1, q_resL_eq_2, q_resX_eq_1, q_one_eq_1, q_V_nrm_eq_1, q_V_nrm_eq_2, q_V_nrm_eq_4, q_V_nrm_eq_6, q_K_nrm_eq_1, q_K_nrm_eq_3, q_V_nrmL_eq_1, q_V_nrmL_eq_2, q_O_nrm_eq_1, q_V_owns_eq_1, q_K_owns_eq_2, q_V_toNew_eq_1, q_K_toNew_eq_1, q_C_norm_eq_1, q_C_norm_eq_4, q_C_norm_eq_5, q_C_normRow_eq_1, q_C_normRow_eq_2, q_C_normRows_eq_1, q_C_normRows_eq_2, q_V_fz_eq_1, q_K_fz_eq_2, q_List_map_cons, q_List_map_nil, q_List_isEmpty_nil, q_List_isEmpty_cons, true_and, if_true, if_false, Bool.false_eq_true, and_self, List.nodup_nil, Nat.reduceBEq, norm_lst, normRows_Ce, normRows_ints, encT_norm, lookT_here, lookT_next, r_map_nrm]
  exact hS
end Go.Abs


set_option maxRecDepth 100000
set_option maxHeartbeats 4000000
namespace Go.Abs
open Go.Proofs
theorem k5 (t : Term) (k : Int) : Spec Try.prog 5 [.agg (encT t), .int .i64 k] (fun r => r = .bool true) := by
  refine Spec.of_awlS hf5 okf5 (by simp) fun S hS => ?_
  simp only [q_wpLs_eq_1, q_wpLs_eq_2, q_wpL_eq_1, q_exL_eq_1, q_exL_eq_5, q_exL_eq_28, q_look_eq_1, q_look_eq_2, q_insT_eq_1, q_insO_eq_1, q_awl_eq_2, q_awl_eq_5, q_AE_thenL_eq_1, q_initT_eq_1, q_initT_eq_2, q_boxK_eq_1, q_freeB_eq_1, q_freeT_eq_1, q_freeT_eq_2, q_freeO_eq_1, q_V_noRef_eq_1, q_V_noRef_eq_2, q_K_noRef_eq_1, q_List_map_nil, true_and, Bool.and_true, Bool.or_true, Nat.reduceAdd, Nat.reduceBEq, Nat.zero_add, lookT_here, uf5, uf5r17, uf5b18, uf5r19, uf5b20]
  refine call_s s29 ?_
  simp only [q_wpLs_eq_1, q_wpLs_eq_2, q_wpL_eq_1, q_exL_eq_1, q_exL_eq_8, q_exL_eq_28, q_look_eq_1, q_insT_eq_1, q_awl_eq_2, q_awl_eq_5, q_AE_thenL_eq_1, q_putK_eq_1, q_loadO_eq_1, q_isV_eq_1, q_vLoad_eq_1, q_List_map_cons, q_List_map_nil, q_List_drop_zero, true_and, Nat.reduceBEq, Nat.zero_add, Nat.le_refl, List.length_map, r_ofRow_take, encT_len, lookT_here, lookT_next, lookO_here, uf5r14, uf5b15, uf5b16]
  refine call_s (s30 t) ?_
  cases h1 : few t
  · simp only [q_wpLs_eq_1, q_wpLs_eq_2, q_wpL_eq_1, q_exL_eq_1, q_exL_eq_15, q_look_eq_1, q_insT_eq_1, q_awl_eq_2, q_awl_eq_5, q_awl_eq_6, q_awl_eq_10, q_AE_thenL_eq_1, q_AE_thenL_eq_3, q_putK_eq_1, q_vUn_eq_1, q_unV_eq_2, q_mapC_eq_1, q_mapT_eq_1, q_mapT_eq_2, q_mapO_eq_1, q_mapO_eq_2, q_endK_eq_2, q_endL_eq_1, q_endV_eq_1, q_resL_eq_1, q_resL_eq_2, q_resX_eq_1, q_one_eq_1, q_V_nrm_eq_1, q_V_nrm_eq_2, q_K_nrm_eq_1, q_K_nrm_eq_3, q_O_nrm_eq_1, q_V_owns_eq_1, q_K_owns_eq_2, q_V_toNew_eq_1, q_K_toNew_eq_1, q_C_norm_eq_4, q_C_norm_eq_5, q_Bool_not_false, true_and, and_self, List.nodup_nil, Nat.reduceBEq, q_learn_eq_1, q_condK_eq_1, q_condB_eq_1, encT_norm, lookT_here, lookT_next, r_map_nrm, uf5r11, uf5b12, uf5b13]
    exact hS
  simp only [q_wpLs_eq_1, q_wpLs_eq_2, q_wpL_eq_1, q_exL_eq_8, q_exL_eq_15, q_exL_eq_28, q_look_eq_1, q_insT_eq_1, q_awl_eq_1, q_awl_eq_2, q_awl_eq_5, q_awl_eq_6, q_AE_thenL_eq_1, q_putK_eq_1, q_vUn_eq_1, q_unV_eq_2, q_mapC_eq_1, q_loadO_eq_1, q_isV_eq_1, q_vLoad_eq_1, q_Bool_not_true, q_List_map_cons, q_List_map_nil, q_List_drop_zero, true_and, Nat.reduceBEq, Nat.zero_add, Nat.le_refl, q_learn_eq_1, q_condK_eq_1, q_condB_eq_2, List.length_map, r_ofRow_take, encT_len, lookT_here, lookT_next, lookO_here, uf5r9, uf5b10, uf5b13]
  refine call_s (s31 t) ?_
  simp only [pairV, q_wpLs_eq_1, q_wpLs_eq_2, q_wpL_eq_1, q_exL_eq_1, q_exL_eq_8, q_exL_eq_27, q_exL_eq_28, q_look_eq_1, q_insT_eq_1, q_awl_eq_2, q_awl_eq_5, q_AE_thenL_eq_1, q_putK_eq_1, q_vExtr_eq_1, q_loadO_eq_1, q_isV_eq_1, q_vLoad_eq_1, q_List_map_cons, q_List_map_nil, q_List_drop_zero, q_List_getElemQ_cons_zero, q_List_getElemQ_cons_succ, true_and, Nat.reduceBEq, Nat.zero_add, Nat.le_refl, List.length_map, r_ofRow_take, encT_len, lookT_here, lookT_next, lookO_here, uf5r7, uf5b8]
  refine call_s (s32 t) ?_
  simp only [pairV, q_wpLs_eq_1, q_wpLs_eq_2, q_wpL_eq_1, q_exL_eq_1, q_exL_eq_27, q_exL_eq_28, q_look_eq_1, q_insT_eq_1, q_awl_eq_2, q_awl_eq_5, q_AE_thenL_eq_1, q_putK_eq_1, q_vExtr_eq_1, q_List_map_cons, q_List_map_nil, q_List_getElemQ_cons_zero, q_List_getElemQ_cons_succ, true_and, Nat.reduceBEq, lookT_here, lookT_next, uf5r5, uf5b6]
  refine call_s (s33 k) ?_
  simp only [varTypeV, q_wpLs_eq_1, q_wpLs_eq_2, q_wpL_eq_1, q_exL_eq_1, q_exL_eq_27, q_exL_eq_28, q_look_eq_1, q_insT_eq_1, q_awl_eq_2, q_awl_eq_5, q_AE_thenL_eq_1, q_putK_eq_1, q_vExtr_eq_1, q_List_map_cons, q_List_map_nil, q_List_getElemQ_cons_zero, q_List_getElemQ_cons_succ, true_and, Nat.reduceBEq, lookT_here, lookT_next, uf5r3, uf5b4]
  refine call_s (s34 k) ?_
  simp only [varTypeV, q_wpLs_eq_1, q_wpLs_eq_2, q_wpLQs_eq_2, q_wpL_eq_1, q_wpLQ_eq_1, q_AOp_dst_eq_1, q_AOp_dst_eq_8, q_AOp_dst_eq_10, q_AOp_dst_eq_11, q_AOp_dst_eq_32, q_exL_eq_1, q_exL_eq_27, q_exLQ_eq_1, q_exLQ_eq_3, q_exLQ_eq_9, q_exLQ_eq_12, q_exLQ_eq_13, q_exLQ_eq_29, q_look_eq_1, q_look_eq_2, q_insT_eq_1, q_awl_eq_3, q_awl_eq_5, q_AE_thenL_eq_1, q_putK_eq_1, q_vBin_eq_1, q_resV_eq_1, q_binV_eq_1, q_binInt_eq_3, q_cutInt_eq_6, q_vBinB_eq_1, q_vExtr_eq_1, q_loadO_eq_1, q_isV_eq_1, q_vLoad_eq_1, q_vPick_eq_1, q_Bool_not_true, q_List_map_cons, q_List_map_nil, q_List_drop_zero, q_List_getElemQ_cons_zero, q_List_getElemQ_cons_succ, true_and, if_true, if_false, Bool.false_eq_true, BEq.rfl, Nat.reduceBEq, Nat.zero_add, Nat.le_refl, q_guardP_eq_1, q_condB_eq_1, q_exKQ_eq_1, List.length_map, r_ofRow_take, encT_len, lookT_here, lookT_next, lookO_here, uf5r1, uf5b2]
  refine callQ_l (s35' t) ?_
  simp only [q_wpLQs_eq_2, q_wpLQ_eq_1, q_AOp_dst_eq_8, q_AOp_dst_eq_32, q_exLQ_eq_9, q_exLQ_eq_29, q_look_eq_1, q_insT_eq_1, q_putK_eq_1, q_loadO_eq_1, q_isV_eq_1, q_vLoad_eq_1, q_V_fz_eq_1, q_K_fz_eq_1, q_Bool_not_true, q_List_map_cons, q_List_map_nil, q_List_drop_zero, true_and, Nat.reduceBEq, Nat.zero_add, Nat.le_refl, q_guardP_eq_1, q_condB_eq_1, q_exKQ_eq_1, List.length_map, r_ofRow_take, encT_len, lookT_here, lookT_next, lookO_here]
  refine callQ_l (s36 t) ?_
  simp only [q_wpLQs_eq_2, q_wpLQ_eq_1, q_AOp_dst_eq_32, q_exLQ_eq_29, q_look_eq_1, q_insT_eq_1, q_V_fz_eq_1, q_K_fz_eq_1, q_Bool_not_true, q_List_map_cons, q_List_map_nil, Nat.reduceBEq, q_guardP_eq_1, q_condB_eq_1, q_exKQ_eq_1, lookT_here, lookT_next]
  refine callQ_s (s22' (varsT t)) ?_
  simp only [q_wpLQs_eq_1, q_wpLQs_eq_2, q_wpLQ_eq_1, q_exLQ_eq_1, q_exLQ_eq_3, q_look_eq_1, q_look_eq_2, q_insT_eq_1, q_awl_eq_10, q_putK_eq_1, q_vPick_eq_1, q_mapT_eq_1, q_mapT_eq_2, q_mapO_eq_1, q_mapO_eq_2, q_endK_eq_2, q_endL_eq_1, q_endV_eq_1, q_resL_eq_1, q_resL_eq_2, q_resX_eq_1, q_one_eq_1, q_V_nrm_eq_1, q_V_nrm_eq_2, q_V_nrm_eq_4, q_K_nrm_eq_1, q_K_nrm_eq_3, q_V_nrmL_eq_1, q_V_nrmL_eq_2, q_O_nrm_eq_1, q_V_owns_eq_1, q_K_owns_eq_2, q_V_toNew_eq_1, q_K_toNew_eq_1, q_C_norm_eq_1, q_C_norm_eq_4, q_C_norm_eq_5, q_V_fz_eq_1, q_K_fz_eq_2, true_and, if_true, and_self, List.nodup_nil, Nat.reduceBEq, normRows_ints, encT_norm, lookT_here, lookT_next, r_map_nrm]
  exact hS
end Go.Abs


set_option maxRecDepth 100000
namespace Go.Proofs.Ytckobjgahmmkaaa
open Go.Abs Go.RowKit
theorem own : ownKnob Try.prog.godebug = none := by kernel_rfl
theorem kids : Kids Try.prog (· < Try.prog.types.size) := kids_rows (by kernel_rfl) (by kernel_rfl)
theorem full : ∀ t e, t < Try.prog.types.size → Try.prog.underlying t = some (.slice e) → 0 < Try.prog.cellsOf e := slices_full_of Try.prog (by kernel_rfl)
def plainTs : List TypeId := [3, 39, 41]
theorem plainTs_ok : plainT Try.prog plainTs = true := by kernel_rfl
theorem plainTs_lt : ∀ t ∈ plainTs, t < Try.prog.types.size := by
  have : plainTs.all (fun t => decide (t < Try.prog.types.size)) = true := by kernel_rfl
  simpa using this
theorem tt : TermTypes Try.prog 3 4 9 41 39 43 23 45 22 25 where
  i := Try.underlying3
  b := Try.underlying4
  s := Try.underlying9
  t := ⟨_, Try.underlying41, rfl⟩
  lt := ⟨Try.underlying39, by kernel_rfl⟩
  r := ⟨_, Try.underlying43, rfl⟩
  lr := ⟨Try.underlying23, by kernel_rfl⟩
  c := ⟨_, Try.underlying45, rfl⟩
  lc := ⟨Try.underlying22, by kernel_rfl⟩
  o := ⟨_, Try.underlying25, rfl⟩
theorem spec5 (xs : List V) (h : ArgsOf Try.prog [41, 3] xs) : Go.Abs.Spec Try.prog 5 xs (fun r => r = .bool true) := by
  match xs, h with
  | [a0, a1], ⟨⟨_, _, h0, q0⟩, ⟨_, _, h1, q1⟩, _⟩ =>
    obtain ⟨x0, e0⟩ := arg_term tt h0
    obtain ⟨x1, e1, _⟩ := arg_int tt.i h1
    rw [q0, q1, e0, e1]
    exact k5 x0 x1
theorem lifted5 (os : Os) (started : os.Started) (H : Type) (enc : TypeId × Value → H) :
    ReturnsInHanded {} Try.checked os 5 .any (Rows.termChecksSpec.pre6 enc Try.prog Try.f5 Rows.termChecksRow.domain false) (Rows.termChecksSpec.post enc Try.prog Try.f5 Rows.termChecksRow.apart Rows.termChecksRow.fresh Rows.termChecksRow.handsOn Rows.termChecksRow.again) := by
  refine law_lifted (C := Try.checked) (T := plainTs) (tb := 4) own started (by kernel_rfl) Try.func5 ?_ plainTs_ok plainTs_lt ?_ kids full rfl ?_ ?_ Try.underlying4 ?_
  · exact ChangeSpec.witness6 (enc := enc) (C := Try.checked) false ⟨#[], #[.agg #[.int .i64 0, .int .i64 0, .slice none 0 0], .int .i64 0], []⟩ 8 (by kernel_rfl) (by kernel_rfl) (by kernel_rfl) (by kernel_rfl)
  · rw [Try.params5]; decide
  · intro ds hds
    rw [Try.params5] at hds
    match ds, hds with
    | [a0, a1], _ => rfl
  · kernel_rfl
  · intro xs hxs
    rw [Try.params5] at hxs
    exact spec5 xs hxs
theorem TermChecks_holds : Rows.TermChecksSaid :=
  OpenClaim.holds_of_wide 5 Try.f5 rfl rfl rfl rfl rfl rfl rfl ⟨rfl, rfl, rfl, rfl, rfl⟩ rfl rfl rfl rfl rfl (by kernel_rfl) Try.func5 (by kernel_rfl)
    (of_decide_eq_true (by kernel_rfl)) (by unfold Func.isWrapper; first | (rw [if_pos (by decide +kernel)]; kernel_rfl) | (rw [if_neg (by decide +kernel)]; exact ⟨rfl, rfl⟩))
    (fun os started H enc _ => lifted5 os started H enc)
end Go.Proofs.Ytckobjgahmmkaaa

