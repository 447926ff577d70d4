/- A part of the proof; the last text states what is proved. -/
import Derived.Test.YtefmlddbkmgliaaP3
import Derived.Deep.OwnRows
import Derived.Test.YtefmlddbkmgliaaProg
import Derived.Shelf.Slices.Reverse
import Derived.Lib.OwnBridge
import Derived.WalkKit
import Derived.BigRegion
import Derived.Deep.RegionLaw
import Derived.Maps.AppendAt
import Derived.Lib.Builder
import Derived.Shelf.Slices.CompactI
import Derived.Shelf.Sort.Plain
import Derived.Deep.AppendSrc
import Derived.Lib.SliceRun
set_option linter.unusedVariables false
set_option linter.unusedSimpArgs false
set_option maxRecDepth 100000
namespace Go.Abs
theorem Qs : ((((((((type_of% @q_insT_eq_1 ∧ type_of% @q_wpLs_eq_2) ∧ (type_of% @q_wpL_eq_1 ∧ type_of% @q_look_eq_1)) ∧ ((type_of% @lookT_here ∧ type_of% @q_exL_eq_1) ∧ (type_of% @true_and ∧ (type_of% @q_wpLs_eq_1 ∧ type_of% @lookT_next)))) ∧ (((type_of% @q_AE_thenL_eq_1 ∧ type_of% @q_awl_eq_2) ∧ (type_of% @q_putK_eq_1 ∧ type_of% @q_awl_eq_5)) ∧ ((type_of% @q_look_eq_2 ∧ type_of% @q_vBin_eq_1) ∧ (type_of% @q_resV_eq_1 ∧ (type_of% @q_binV_eq_1 ∧ type_of% @q_binInt_eq_3))))) ∧ ((((type_of% @q_exL_eq_11 ∧ type_of% @q_awl_eq_6) ∧ (type_of% @q_learn_eq_1 ∧ type_of% @q_condK_eq_1)) ∧ ((type_of% @and_self ∧ type_of% @Nat.zero_add) ∧ (type_of% @q_condB_eq_1 ∧ (type_of% @q_condB_eq_2 ∧ type_of% @q_cutInt_eq_8)))) ∧ (((type_of% @q_mapO_eq_1 ∧ type_of% @q_mapT_eq_1) ∧ (type_of% @q_mapT_eq_2 ∧ (type_of% @q_List_map_nil ∧ type_of% @q_List_map_cons))) ∧ ((type_of% @q_awl_eq_1 ∧ type_of% @decide_true) ∧ (type_of% @q_V_owns_eq_1 ∧ (type_of% @q_V_toNew_eq_1 ∧ type_of% @q_awl_eq_10)))))) ∧ (((((type_of% @q_endL_eq_1 ∧ type_of% @q_endV_eq_1) ∧ (type_of% @q_resL_eq_1 ∧ type_of% @q_resL_eq_2)) ∧ ((type_of% @q_resX_eq_1 ∧ type_of% @q_one_eq_1) ∧ (type_of% @q_lookO_eq_1 ∧ (type_of% @q_AOp_dst_eq_10 ∧ type_of% @q_V_nrm_eq_1)))) ∧ (((type_of% @lookO_here ∧ type_of% @q_endK_eq_2) ∧ (type_of% @q_K_nrm_eq_1 ∧ (type_of% @q_C_norm_eq_4 ∧ type_of% @q_C_norm_eq_5))) ∧ ((type_of% @q_exL_eq_30 ∧ type_of% @q_Bool_not_true) ∧ (type_of% @decide_false ∧ (type_of% @norm_lst ∧ type_of% @q_awl_eq_7))))) ∧ ((((type_of% @q_exL_eq_3 ∧ type_of% @q_AOp_dst_eq_1) ∧ (type_of% @q_vPick_eq_1 ∧ type_of% @r_vLen_lst)) ∧ ((type_of% @q_List_length_nil ∧ type_of% @q_Bool_not_false) ∧ (type_of% @q_K_owns_eq_2 ∧ (type_of% @q_K_toNew_eq_1 ∧ type_of% @Bool.false_eq_true)))) ∧ (((type_of% @q_exK_eq_1 ∧ type_of% @q_exL_eq_8) ∧ (type_of% @Nat.le_refl ∧ (type_of% @q_vLoad_eq_2 ∧ type_of% @q_AOp_dst_eq_8))) ∧ ((type_of% @q_List_length_cons ∧ type_of% @q_guardP_eq_2) ∧ (type_of% @r_vIaddr_lst ∧ (type_of% @q_insO_eq_1 ∧ type_of% @Int.toNat_natCast))))))) ∧ ((((((type_of% @q_partV_eq_2 ∧ type_of% @q_List_getD_cons_zero) ∧ (type_of% @q_guardP_eq_1 ∧ type_of% @q_mapO_eq_2)) ∧ ((type_of% @q_AE_inBlockL_eq_1 ∧ type_of% @q_cutInt_eq_1) ∧ (type_of% @q_List_drop_zero ∧ (type_of% @q_List_take_zero ∧ type_of% @ints_len)))) ∧ (((type_of% @q_List_take_succ_cons ∧ type_of% @q_AE_thenL_eq_3) ∧ (type_of% @q_exL_eq_23 ∧ type_of% @q_Option_map_some)) ∧ ((type_of% @q_freeB_eq_1 ∧ type_of% @q_freeT_eq_1) ∧ (type_of% @q_freeT_eq_2 ∧ (type_of% @q_freeO_eq_1 ∧ type_of% @q_V_noRef_eq_1))))) ∧ ((((type_of% @Bool.and_true ∧ type_of% @Bool.or_true) ∧ (type_of% @q_putDL_eq_1 ∧ type_of% @q_K_noRef_eq_1)) ∧ ((type_of% @q_pureRow_eq_1 ∧ type_of% @q_pureRow_eq_2) ∧ (type_of% @q_List_drop_succ_cons ∧ (type_of% @q_AOp_dst_eq_20 ∧ type_of% @Nat.add_zero)))) ∧ (((type_of% @q_AOp_dst_eq_22 ∧ type_of% @q_exL_eq_28) ∧ (type_of% @q_loadO_eq_1 ∧ (type_of% @q_isV_eq_1 ∧ type_of% @q_vLoad_eq_1))) ∧ ((type_of% @q_cutInt_eq_6 ∧ type_of% @q_wpLQs_eq_2) ∧ (type_of% @q_wpLQ_eq_1 ∧ (type_of% @not_false_eq_true ∧ type_of% @q_isVarO_eq_1)))))) ∧ (((((type_of% @q_awl_eq_9 ∧ type_of% @q_AE_thenL_eq_2) ∧ (type_of% @q_AE_inBlockL_eq_2 ∧ type_of% @q_cutInt_eq_10)) ∧ ((type_of% @q_exL_eq_21 ∧ type_of% @q_ofRow_eq_1) ∧ (type_of% @q_wpLQs_eq_1 ∧ (type_of% @q_vFaddr_eq_1 ∧ type_of% @q_K_nrm_eq_3)))) ∧ (((type_of% @q_exLQ_eq_1 ∧ type_of% @q_K_nrm_eq_2) ∧ (type_of% @q_awl_eq_3 ∧ (type_of% @q_V_nrm_eq_5 ∧ type_of% @q_freeO_eq_2))) ∧ ((type_of% @lookO_next ∧ type_of% @q_initT_eq_1) ∧ (type_of% @q_vFaddr_eq_3 ∧ (type_of% @q_exLQ_eq_9 ∧ type_of% @q_AOp_dst_eq_27))))) ∧ ((((type_of% @q_initT_eq_2 ∧ type_of% @q_AE_inBlockL_eq_3) ∧ (type_of% @q_K_noRef_eq_2 ∧ type_of% @q_O_noRef_eq_2)) ∧ ((type_of% @q_cutInt_eq_11 ∧ type_of% @q_vUn_eq_1) ∧ (type_of% @q_unV_eq_2 ∧ (type_of% @q_mapC_eq_1 ∧ type_of% @q_cutInt_eq_7)))) ∧ (((type_of% @q_exLQ_eq_24 ∧ type_of% @Bool.false_or) ∧ (type_of% @q_List_foldl_nil ∧ (type_of% @normRows_ints ∧ type_of% @Int.natCast_nonneg))) ∧ ((type_of% @q_delO_eq_1 ∧ type_of% @q_delO_eq_2) ∧ (type_of% @q_C_normRow_eq_1 ∧ (type_of% @q_C_normRow_eq_2 ∧ type_of% @q_exLQ_eq_12)))))))) ∧ (((((((type_of% @q_vLits_eq_1 ∧ type_of% @q_List_replicate_zero) ∧ (type_of% @q_vPick_eq_2 ∧ type_of% @q_splice_eq_1)) ∧ ((type_of% @q_List_nil_append ∧ type_of% @q_exL_eq_15) ∧ (type_of% @q_List_foldl_cons ∧ (type_of% @q_exLQ_eq_22 ∧ type_of% @Bool.true_and)))) ∧ (((type_of% @q_AOp_dst_eq_3 ∧ type_of% @q_V_nrm_eq_2) ∧ (type_of% @q_exLQ_eq_3 ∧ type_of% @q_vRow_eq_1)) ∧ ((type_of% @or_false ∧ type_of% @q_AOp_dst_eq_32) ∧ (type_of% @q_O_nrm_eq_1 ∧ (type_of% @q_List_getD_cons_succ ∧ type_of% @q_vLits_eq_2))))) ∧ ((((type_of% @q_List_replicate_succ ∧ type_of% @q_List_set_cons_zero) ∧ (type_of% @q_vPick_eq_3 ∧ type_of% @q_V_noRef_eq_2)) ∧ ((type_of% @q_List_cons_append ∧ type_of% @q_AOp_dst_eq_14) ∧ (type_of% @q_stVarK_eq_1 ∧ (type_of% @q_storeK_eq_1 ∧ type_of% @q_K_noRef_eq_5)))) ∧ (((type_of% @q_exL_eq_7 ∧ type_of% @q_bsK_eq_1) ∧ (type_of% @q_cutInt_eq_2 ∧ (type_of% @q_exL_eq_2 ∧ type_of% @Bool.and_eq_true))) ∧ ((type_of% @q_exKQ_eq_1 ∧ type_of% @q_V_cells_eq_1) ∧ (type_of% @q_nlApp_eq_2 ∧ (type_of% @q_isArrO_eq_1 ∧ type_of% @z_V_k)))))) ∧ (((((type_of% @z_K_c ∧ type_of% @z_frzT) ∧ (type_of% @z_frzO ∧ type_of% @Nat.succ_ne_self)) ∧ ((type_of% @q_vIaddr_eq_2 ∧ type_of% @q_idxO_eq_1) ∧ (type_of% @z_K_own_arr ∧ (type_of% @Int.cast_ofNat_Int ∧ type_of% @q_appK_eq_1)))) ∧ (((type_of% @q_appendK_eq_1 ∧ type_of% @q_V_scrub_eq_1) ∧ (type_of% @q_K_scrub_eq_1 ∧ (type_of% @q_K_scrub_eq_5 ∧ type_of% @q_K_owns_eq_1))) ∧ ((type_of% @q_K_toNew_eq_2 ∧ type_of% @q_exL_eq_9) ∧ (type_of% @q_O_nrm_eq_2 ∧ (type_of% @q_awl_eq_14 ∧ type_of% @q_partV_eq_1))))) ∧ ((((type_of% @q_O_scrub_eq_2 ∧ type_of% @q_exLQ_eq_10) ∧ (type_of% @q_K_noRef_eq_3 ∧ type_of% @q_O_noRef_eq_1)) ∧ ((type_of% @q_List_all_cons ∧ type_of% @q_List_all_nil) ∧ (type_of% @q_exLQ_eq_33 ∧ (type_of% @q_vIaddr_eq_1 ∧ type_of% @q_loadO_eq_2)))) ∧ (((type_of% @q_isA_eq_1 ∧ type_of% @q_vLoad_eq_3) ∧ (type_of% @q_regN_eq_1 ∧ (type_of% @q_V_reg_eq_4 ∧ type_of% @q_freesL_eq_1))) ∧ ((type_of% @q_addsL_eq_1 ∧ type_of% @q_regK_eq_1) ∧ (type_of% @q_retK_eq_2 ∧ (type_of% @q_srcV_eq_1 ∧ type_of% @z_O_arr))))))) ∧ ((((((type_of% @q_C_normRows_eq_1 ∧ type_of% @q_ofRow_eq_2) ∧ (type_of% @q_exL_eq_33 ∧ type_of% @q_exLQ_eq_8)) ∧ ((type_of% @q_exLQ_eq_36 ∧ type_of% @q_bsQ_eq_1) ∧ (type_of% @q_K_scrub_eq_2 ∧ (type_of% @q_O_scrub_eq_1 ∧ type_of% @q_cutInt_eq_9)))) ∧ (((type_of% @q_exL_eq_4 ∧ type_of% @q_V_cells_eq_2) ∧ (type_of% @q_exL_eq_24 ∧ type_of% @Int.toNat_zero)) ∧ ((type_of% @Nat.mul_one ∧ type_of% @q_AOp_dst_eq_23) ∧ (type_of% @q_guardP_eq_3 ∧ (type_of% @q_V_fz_eq_1 ∧ type_of% @q_K_fz_eq_2))))) ∧ ((((type_of% @q_vRow_eq_2 ∧ type_of% @q_srcO_eq_1) ∧ (type_of% @q_srcV_eq_2 ∧ type_of% @z_frzT0)) ∧ ((type_of% @z_frzO0 ∧ type_of% @q_vLen_eq_1) ∧ (type_of% @q_vBuild_eq_1 ∧ (type_of% @q_vBuild_eq_2 ∧ type_of% @q_rowV_eq_1)))) ∧ (((type_of% @q_stArrK_eq_1 ∧ type_of% @q_storeK_eq_2) ∧ (type_of% @q_exL_eq_6 ∧ (type_of% @q_exLQ_eq_29 ∧ type_of% @q_C_norm_eq_2))) ∧ ((type_of% @q_K_noRef_eq_4 ∧ type_of% @q_V_scrub_eq_3) ∧ (type_of% @q_vIaddrA_eq_3 ∧ (type_of% @q_C_norm_eq_1 ∧ type_of% @q_appNK_eq_1)))))) ∧ (((((type_of% @q_appendK_eq_2 ∧ type_of% @q_pureRow_eq_3) ∧ (type_of% @false_implies ∧ type_of% @q_vIaddrA_eq_1)) ∧ ((type_of% @Bool.true_or ∧ type_of% @q_exL_eq_5) ∧ (type_of% @q_boxK_eq_1 ∧ (type_of% @q_List_set_cons_succ ∧ type_of% @q_exL_eq_14)))) ∧ (((type_of% @q_vLen_eq_2 ∧ type_of% @q_lenO_eq_1) ∧ (type_of% @q_exLQ_eq_16 ∧ (type_of% @q_C_norm_eq_3 ∧ type_of% @z_V_agg))) ∧ ((type_of% @q_exL_eq_18 ∧ type_of% @q_mkslK_eq_1) ∧ (type_of% @q_AOp_dst_eq_13 ∧ (type_of% @q_K_scrub_eq_3 ∧ type_of% @q_vInts_eq_1))))) ∧ ((((type_of% @q_vInts_eq_2 ∧ type_of% @q_foldV_eq_1) ∧ (type_of% @q_vMinmax_eq_1 ∧ type_of% @q_minmaxI_eq_1)) ∧ ((type_of% @q_V_noRef_eq_5 ∧ type_of% @q_V_scrub_eq_4) ∧ (type_of% @z_O_var ∧ (type_of% @z_K_ptr_arr ∧ type_of% @q_vFaddr_eq_4)))) ∧ (((type_of% @q_vLoad_eq_4 ∧ type_of% @q_vFaddr_eq_2) ∧ (type_of% @z_K_elem_arr ∧ (type_of% @q_vNil_eq_2 ∧ type_of% @q_nilO_eq_1))) ∧ ((type_of% @q_exL_eq_34 ∧ type_of% @r_srcV_lst) ∧ (type_of% @z_K_dead ∧ (type_of% @q_C_normRows_eq_2 ∧ type_of% @q_AOp_dst_eq_7))))))))) := ⟨⟨⟨⟨⟨⟨⟨⟨@q_insT_eq_1, @q_wpLs_eq_2⟩, ⟨@q_wpL_eq_1, @q_look_eq_1⟩⟩, ⟨⟨@lookT_here, @q_exL_eq_1⟩, ⟨@true_and, ⟨@q_wpLs_eq_1, @lookT_next⟩⟩⟩⟩, ⟨⟨⟨@q_AE_thenL_eq_1, @q_awl_eq_2⟩, ⟨@q_putK_eq_1, @q_awl_eq_5⟩⟩, ⟨⟨@q_look_eq_2, @q_vBin_eq_1⟩, ⟨@q_resV_eq_1, ⟨@q_binV_eq_1, @q_binInt_eq_3⟩⟩⟩⟩⟩, ⟨⟨⟨⟨@q_exL_eq_11, @q_awl_eq_6⟩, ⟨@q_learn_eq_1, @q_condK_eq_1⟩⟩, ⟨⟨@and_self, @Nat.zero_add⟩, ⟨@q_condB_eq_1, ⟨@q_condB_eq_2, @q_cutInt_eq_8⟩⟩⟩⟩, ⟨⟨⟨@q_mapO_eq_1, @q_mapT_eq_1⟩, ⟨@q_mapT_eq_2, ⟨@q_List_map_nil, @q_List_map_cons⟩⟩⟩, ⟨⟨@q_awl_eq_1, @decide_true⟩, ⟨@q_V_owns_eq_1, ⟨@q_V_toNew_eq_1, @q_awl_eq_10⟩⟩⟩⟩⟩⟩, ⟨⟨⟨⟨⟨@q_endL_eq_1, @q_endV_eq_1⟩, ⟨@q_resL_eq_1, @q_resL_eq_2⟩⟩, ⟨⟨@q_resX_eq_1, @q_one_eq_1⟩, ⟨@q_lookO_eq_1, ⟨@q_AOp_dst_eq_10, @q_V_nrm_eq_1⟩⟩⟩⟩, ⟨⟨⟨@lookO_here, @q_endK_eq_2⟩, ⟨@q_K_nrm_eq_1, ⟨@q_C_norm_eq_4, @q_C_norm_eq_5⟩⟩⟩, ⟨⟨@q_exL_eq_30, @q_Bool_not_true⟩, ⟨@decide_false, ⟨@norm_lst, @q_awl_eq_7⟩⟩⟩⟩⟩, ⟨⟨⟨⟨@q_exL_eq_3, @q_AOp_dst_eq_1⟩, ⟨@q_vPick_eq_1, @r_vLen_lst⟩⟩, ⟨⟨@q_List_length_nil, @q_Bool_not_false⟩, ⟨@q_K_owns_eq_2, ⟨@q_K_toNew_eq_1, @Bool.false_eq_true⟩⟩⟩⟩, ⟨⟨⟨@q_exK_eq_1, @q_exL_eq_8⟩, ⟨@Nat.le_refl, ⟨@q_vLoad_eq_2, @q_AOp_dst_eq_8⟩⟩⟩, ⟨⟨@q_List_length_cons, @q_guardP_eq_2⟩, ⟨@r_vIaddr_lst, ⟨@q_insO_eq_1, @Int.toNat_natCast⟩⟩⟩⟩⟩⟩⟩, ⟨⟨⟨⟨⟨⟨@q_partV_eq_2, @q_List_getD_cons_zero⟩, ⟨@q_guardP_eq_1, @q_mapO_eq_2⟩⟩, ⟨⟨@q_AE_inBlockL_eq_1, @q_cutInt_eq_1⟩, ⟨@q_List_drop_zero, ⟨@q_List_take_zero, @ints_len⟩⟩⟩⟩, ⟨⟨⟨@q_List_take_succ_cons, @q_AE_thenL_eq_3⟩, ⟨@q_exL_eq_23, @q_Option_map_some⟩⟩, ⟨⟨@q_freeB_eq_1, @q_freeT_eq_1⟩, ⟨@q_freeT_eq_2, ⟨@q_freeO_eq_1, @q_V_noRef_eq_1⟩⟩⟩⟩⟩, ⟨⟨⟨⟨@Bool.and_true, @Bool.or_true⟩, ⟨@q_putDL_eq_1, @q_K_noRef_eq_1⟩⟩, ⟨⟨@q_pureRow_eq_1, @q_pureRow_eq_2⟩, ⟨@q_List_drop_succ_cons, ⟨@q_AOp_dst_eq_20, @Nat.add_zero⟩⟩⟩⟩, ⟨⟨⟨@q_AOp_dst_eq_22, @q_exL_eq_28⟩, ⟨@q_loadO_eq_1, ⟨@q_isV_eq_1, @q_vLoad_eq_1⟩⟩⟩, ⟨⟨@q_cutInt_eq_6, @q_wpLQs_eq_2⟩, ⟨@q_wpLQ_eq_1, ⟨@not_false_eq_true, @q_isVarO_eq_1⟩⟩⟩⟩⟩⟩, ⟨⟨⟨⟨⟨@q_awl_eq_9, @q_AE_thenL_eq_2⟩, ⟨@q_AE_inBlockL_eq_2, @q_cutInt_eq_10⟩⟩, ⟨⟨@q_exL_eq_21, @q_ofRow_eq_1⟩, ⟨@q_wpLQs_eq_1, ⟨@q_vFaddr_eq_1, @q_K_nrm_eq_3⟩⟩⟩⟩, ⟨⟨⟨@q_exLQ_eq_1, @q_K_nrm_eq_2⟩, ⟨@q_awl_eq_3, ⟨@q_V_nrm_eq_5, @q_freeO_eq_2⟩⟩⟩, ⟨⟨@lookO_next, @q_initT_eq_1⟩, ⟨@q_vFaddr_eq_3, ⟨@q_exLQ_eq_9, @q_AOp_dst_eq_27⟩⟩⟩⟩⟩, ⟨⟨⟨⟨@q_initT_eq_2, @q_AE_inBlockL_eq_3⟩, ⟨@q_K_noRef_eq_2, @q_O_noRef_eq_2⟩⟩, ⟨⟨@q_cutInt_eq_11, @q_vUn_eq_1⟩, ⟨@q_unV_eq_2, ⟨@q_mapC_eq_1, @q_cutInt_eq_7⟩⟩⟩⟩, ⟨⟨⟨@q_exLQ_eq_24, @Bool.false_or⟩, ⟨@q_List_foldl_nil, ⟨@normRows_ints, @Int.natCast_nonneg⟩⟩⟩, ⟨⟨@q_delO_eq_1, @q_delO_eq_2⟩, ⟨@q_C_normRow_eq_1, ⟨@q_C_normRow_eq_2, @q_exLQ_eq_12⟩⟩⟩⟩⟩⟩⟩⟩, ⟨⟨⟨⟨⟨⟨⟨@q_vLits_eq_1, @q_List_replicate_zero⟩, ⟨@q_vPick_eq_2, @q_splice_eq_1⟩⟩, ⟨⟨@q_List_nil_append, @q_exL_eq_15⟩, ⟨@q_List_foldl_cons, ⟨@q_exLQ_eq_22, @Bool.true_and⟩⟩⟩⟩, ⟨⟨⟨@q_AOp_dst_eq_3, @q_V_nrm_eq_2⟩, ⟨@q_exLQ_eq_3, @q_vRow_eq_1⟩⟩, ⟨⟨@or_false, @q_AOp_dst_eq_32⟩, ⟨@q_O_nrm_eq_1, ⟨@q_List_getD_cons_succ, @q_vLits_eq_2⟩⟩⟩⟩⟩, ⟨⟨⟨⟨@q_List_replicate_succ, @q_List_set_cons_zero⟩, ⟨@q_vPick_eq_3, @q_V_noRef_eq_2⟩⟩, ⟨⟨@q_List_cons_append, @q_AOp_dst_eq_14⟩, ⟨@q_stVarK_eq_1, ⟨@q_storeK_eq_1, @q_K_noRef_eq_5⟩⟩⟩⟩, ⟨⟨⟨@q_exL_eq_7, @q_bsK_eq_1⟩, ⟨@q_cutInt_eq_2, ⟨@q_exL_eq_2, @Bool.and_eq_true⟩⟩⟩, ⟨⟨@q_exKQ_eq_1, @q_V_cells_eq_1⟩, ⟨@q_nlApp_eq_2, ⟨@q_isArrO_eq_1, @z_V_k⟩⟩⟩⟩⟩⟩, ⟨⟨⟨⟨⟨@z_K_c, @z_frzT⟩, ⟨@z_frzO, @Nat.succ_ne_self⟩⟩, ⟨⟨@q_vIaddr_eq_2, @q_idxO_eq_1⟩, ⟨@z_K_own_arr, ⟨@Int.cast_ofNat_Int, @q_appK_eq_1⟩⟩⟩⟩, ⟨⟨⟨@q_appendK_eq_1, @q_V_scrub_eq_1⟩, ⟨@q_K_scrub_eq_1, ⟨@q_K_scrub_eq_5, @q_K_owns_eq_1⟩⟩⟩, ⟨⟨@q_K_toNew_eq_2, @q_exL_eq_9⟩, ⟨@q_O_nrm_eq_2, ⟨@q_awl_eq_14, @q_partV_eq_1⟩⟩⟩⟩⟩, ⟨⟨⟨⟨@q_O_scrub_eq_2, @q_exLQ_eq_10⟩, ⟨@q_K_noRef_eq_3, @q_O_noRef_eq_1⟩⟩, ⟨⟨@q_List_all_cons, @q_List_all_nil⟩, ⟨@q_exLQ_eq_33, ⟨@q_vIaddr_eq_1, @q_loadO_eq_2⟩⟩⟩⟩, ⟨⟨⟨@q_isA_eq_1, @q_vLoad_eq_3⟩, ⟨@q_regN_eq_1, ⟨@q_V_reg_eq_4, @q_freesL_eq_1⟩⟩⟩, ⟨⟨@q_addsL_eq_1, @q_regK_eq_1⟩, ⟨@q_retK_eq_2, ⟨@q_srcV_eq_1, @z_O_arr⟩⟩⟩⟩⟩⟩⟩, ⟨⟨⟨⟨⟨⟨@q_C_normRows_eq_1, @q_ofRow_eq_2⟩, ⟨@q_exL_eq_33, @q_exLQ_eq_8⟩⟩, ⟨⟨@q_exLQ_eq_36, @q_bsQ_eq_1⟩, ⟨@q_K_scrub_eq_2, ⟨@q_O_scrub_eq_1, @q_cutInt_eq_9⟩⟩⟩⟩, ⟨⟨⟨@q_exL_eq_4, @q_V_cells_eq_2⟩, ⟨@q_exL_eq_24, @Int.toNat_zero⟩⟩, ⟨⟨@Nat.mul_one, @q_AOp_dst_eq_23⟩, ⟨@q_guardP_eq_3, ⟨@q_V_fz_eq_1, @q_K_fz_eq_2⟩⟩⟩⟩⟩, ⟨⟨⟨⟨@q_vRow_eq_2, @q_srcO_eq_1⟩, ⟨@q_srcV_eq_2, @z_frzT0⟩⟩, ⟨⟨@z_frzO0, @q_vLen_eq_1⟩, ⟨@q_vBuild_eq_1, ⟨@q_vBuild_eq_2, @q_rowV_eq_1⟩⟩⟩⟩, ⟨⟨⟨@q_stArrK_eq_1, @q_storeK_eq_2⟩, ⟨@q_exL_eq_6, ⟨@q_exLQ_eq_29, @q_C_norm_eq_2⟩⟩⟩, ⟨⟨@q_K_noRef_eq_4, @q_V_scrub_eq_3⟩, ⟨@q_vIaddrA_eq_3, ⟨@q_C_norm_eq_1, @q_appNK_eq_1⟩⟩⟩⟩⟩⟩, ⟨⟨⟨⟨⟨@q_appendK_eq_2, @q_pureRow_eq_3⟩, ⟨@false_implies, @q_vIaddrA_eq_1⟩⟩, ⟨⟨@Bool.true_or, @q_exL_eq_5⟩, ⟨@q_boxK_eq_1, ⟨@q_List_set_cons_succ, @q_exL_eq_14⟩⟩⟩⟩, ⟨⟨⟨@q_vLen_eq_2, @q_lenO_eq_1⟩, ⟨@q_exLQ_eq_16, ⟨@q_C_norm_eq_3, @z_V_agg⟩⟩⟩, ⟨⟨@q_exL_eq_18, @q_mkslK_eq_1⟩, ⟨@q_AOp_dst_eq_13, ⟨@q_K_scrub_eq_3, @q_vInts_eq_1⟩⟩⟩⟩⟩, ⟨⟨⟨⟨@q_vInts_eq_2, @q_foldV_eq_1⟩, ⟨@q_vMinmax_eq_1, @q_minmaxI_eq_1⟩⟩, ⟨⟨@q_V_noRef_eq_5, @q_V_scrub_eq_4⟩, ⟨@z_O_var, ⟨@z_K_ptr_arr, @q_vFaddr_eq_4⟩⟩⟩⟩, ⟨⟨⟨@q_vLoad_eq_4, @q_vFaddr_eq_2⟩, ⟨@z_K_elem_arr, ⟨@q_vNil_eq_2, @q_nilO_eq_1⟩⟩⟩, ⟨⟨@q_exL_eq_34, @r_srcV_lst⟩, ⟨@z_K_dead, ⟨@q_C_normRows_eq_2, @q_AOp_dst_eq_7⟩⟩⟩⟩⟩⟩⟩⟩⟩
end Go.Abs


namespace Go.Abs
section
variable {P : Program}
theorem shape_int {n : Nat} {t : TypeId} {r : List C} {k : IntKind} (hu : P.underlying t = some (.int k)) (h : Shape P n t r) : ∃ m : Int, r = [.int k m] ∧ (Lit.int k m).wf = true := by
  cases n with
  | zero => exact h.elim
  | succ n => simp only [Shape, hu] at h; exact h
theorem shape_slice {n : Nat} {t e : TypeId} {r : List C} (hu : P.underlying t = some (.slice e)) (h : Shape P n t r) : ∃ m rows, n = m + 1 ∧ r = [lstC (P.cellsOf e) rows] ∧ rows.length ≤ 9223372036854775807 ∧ ∀ x ∈ rows, Shape P m e x := by
  cases n with
  | zero => exact h.elim
  | succ n => simp only [Shape, hu] at h; obtain ⟨rows, h1, h2, h3⟩ := h; exact ⟨n, rows, rfl, h1, h2, h3⟩
theorem shape_struct {n : Nat} {t : TypeId} {fs : Array Field} {r : List C} (hu : P.underlying t = some (.struct fs)) (h : Shape P n t r) : ∃ m rs, n = m + 1 ∧ r = rs.flatten ∧ ShapeL (Shape P m) (fs.toList.map (·.type)) rs := by
  cases n with
  | zero => exact h.elim
  | succ n => simp only [Shape, hu] at h; obtain ⟨rs, h1, h2⟩ := h; exact ⟨n, rs, rfl, h1, h2⟩
theorem rows_of {α : Type} {S : List C → Prop} (enc : α → List C) (hS : ∀ r, S r → ∃ a, r = enc a) : ∀ (rows : List (List C)), (∀ r ∈ rows, S r) → ∃ l : List α, rows = l.map enc
  | [], _ => ⟨[], rfl⟩
  | r :: rows, h => by
    obtain ⟨a, ha⟩ := hS r (h r (by simp))
    obtain ⟨l, hl⟩ := rows_of enc hS rows (fun x hx => h x (by simp [hx]))
    exact ⟨a :: l, by rw [ha, hl]; rfl⟩
variable {tI tB tS tT tLT tR tLR tC tLC tO : TypeId}
theorem arg_int {n : Nat} {t : TypeId} {r : List C} {k : IntKind} (hu : P.underlying t = some (.int k)) (hr : Shape P n t r) : ∃ m : Int, argV P t r = .int k m ∧ (Lit.int k m).wf = true := by
  obtain ⟨m, rfl, h⟩ := shape_int hu hr
  exact ⟨m, by simp only [argV, hu], h⟩
end
end Go.Abs


namespace Go.Abs
section
variable {P : Program}
end
end Go.Abs


namespace Go.Abs
open Go.Proofs Go.RowKit
theorem Spec.of_awlP {P : Program} {f : FuncId} {n : Nat} {c : AQ} {rs : List RX} {args : List V} {X : V} (hc : cFunc P f = some ⟨n, c.erase, rs⟩) (hok : c.ok = true) (hlen : args.length ≤ n)
    (h : ∀ S : V → Prop, (∀ r, r.fz.nrm = X → S r) → awl P c (endK rs S) (initT 0 args) []) : Spec P f args (fun r => r = X) :=
  (Spec.of_awl hc hok hlen (h (fun r => r.fz.nrm = X) fun _ h => h)).plain.mono (by rintro r' ⟨r, h, rfl⟩; exact h)
theorem callable_at {P : Program} {f : FuncId} (h : (match P.funcs[f]? with | some fn => fn.body.isSome && !(fn.name == "runtime.NumGoroutine") | none => false) = true) : Callable P f := by
  unfold Callable
  cases hf : P.funcs[f]? with
  | none => rw [hf] at h; simp at h
  | some fn => rw [hf] at h; simp only [Bool.and_eq_true, Bool.not_eq_true'] at h; exact ⟨fn, rfl, h.1, h.2⟩
theorem kept_of_below {w w' : World} (h : Below w.heap.size w w') : Kept w w' := ⟨h.os, h.tape, h.output, h.size, h.block⟩
def C.sc : C → Bool
  | .int _ _ => true
  | .bool _ => true
  | .str _ => true
  | _ => false
def valC : C → Value
  | .int k n => .int k n
  | .bool b => .bool b
  | .str s => .string ⟨s.toArray⟩
  | _ => .bool false
theorem sc_val {w : World} {Z : Bk → Prop} {c : C} {v : Value} (hc : c.sc = true) (h : PRep w Z c v) : v = valC c := by
  cases h <;> first | rfl | cases hc
theorem sc_rep {w : World} {Z : Bk → Prop} {c : C} (hc : c.sc = true) : PRep w Z c (valC c) := by
  cases c <;> first | exact .int _ _ | exact .bool _ | exact .str _ | cases hc
theorem sc_one {c : C} (hc : c.sc = true) : (valC c).oneCell' = true := (sc_rep (w := default) (Z := fun _ => False) hc).oneCell
theorem flat_get {α : Type} {sz : Nat} (h0 : 0 < sz) : ∀ (rows : List (List α)) (k : Nat) (c : α), (∀ r, r ∈ rows → r.length = sz) → rows.flatten[k]? = some c → ∃ i j r, rows[i]? = some r ∧ r[j]? = some c ∧ k = i * sz + j
  | [], k, c, _, h => by simp at h
  | r :: rows, k, c, hl, h => by
    have hr := hl r List.mem_cons_self
    rw [List.flatten_cons] at h
    by_cases hk : k < sz
    · rw [List.getElem?_append_left (by omega)] at h
      exact ⟨0, k, r, rfl, h, by omega⟩
    · rw [List.getElem?_append_right (by omega)] at h
      obtain ⟨i, j, r', h1, h2, h3⟩ := flat_get h0 rows (k - r.length) c (fun r' hr' => hl r' (List.mem_cons_of_mem _ hr')) h
      exact ⟨i + 1, j, r', h1, h2, by rw [Nat.add_mul]; omega⟩
theorem flat_at {α : Type} {sz : Nat} : ∀ (rows : List (List α)) (i j : Nat) (r : List α) (c : α), (∀ r, r ∈ rows → r.length = sz) → rows[i]? = some r → r[j]? = some c → rows.flatten[i * sz + j]? = some c
  | [], i, j, r, c, _, h, _ => by simp at h
  | r0 :: rows, 0, j, r, c, hl, h, hc => by
    cases h
    have hj := (List.getElem?_eq_some_iff.1 hc).1
    rw [List.flatten_cons, Nat.zero_mul, Nat.zero_add, List.getElem?_append_left hj]
    exact hc
  | r0 :: rows, i + 1, j, r, c, hl, h, hc => by
    have hr := hl r0 List.mem_cons_self
    rw [List.flatten_cons, Nat.add_mul, List.getElem?_append_right (by omega), show i * sz + 1 * sz + j - r0.length = i * sz + j by omega]
    exact flat_at rows i j r c (fun r' hr' => hl r' (List.mem_cons_of_mem _ hr')) h hc
def cellsC (rows : List (List C)) : List Value := rows.flatten.map valC
structure Plain (sz : Nat) (rows : List (List C)) : Prop where
  pos : 0 < sz
  len : ∀ r, r ∈ rows → r.length = sz
  sc : ∀ r, r ∈ rows → ∀ c, c ∈ r → c.sc = true
theorem Plain.one {sz : Nat} {rows : List (List C)} (h : Plain sz rows) : ∀ u ∈ cellsC rows, u.oneCell' = true := by
  intro u hu
  obtain ⟨c, hc, rfl⟩ := List.mem_map.1 hu
  obtain ⟨r, hr, hcr⟩ := List.mem_flatten.1 hc
  exact sc_one (h.sc r hr c hcr)
theorem Plain.at {sz : Nat} {rows : List (List C)} (h : Plain sz rows) {i j : Nat} {r : List C} {c : C} (hr : rows[i]? = some r) (hc : r[j]? = some c) : (cellsC rows)[i * sz + j]? = some (valC c) ∧ c.sc = true := by
  refine ⟨?_, h.sc r (List.mem_of_getElem? hr) c (List.mem_of_getElem? hc)⟩
  rw [cellsC, List.getElem?_map, flat_at rows i j r c h.len hr hc]; rfl
theorem Plain.slice {sz : Nat} {rows : List (List C)} (h : Plain sz rows) {w : World} {Z : Bk → Prop} {v : Value} (hv : PRep w Z (lstC sz rows) v) :
    ∃ p cap, v = .slice p rows.length cap ∧ (0 < rows.length → ∃ b o, p = some ⟨b, o, none⟩ ∧ ∀ j u, (cellsC rows)[j]? = some u → w.cell? ⟨b, o + j, none⟩ = some u) ∧ (0 < rows.length → rows.length ≤ cap) := by
  unfold lstC at hv
  by_cases h0 : rows = []
  · subst h0
    have h' : PRep w Z (.list 0 none []) v := hv
    generalize hc : C.list 0 none [] = c at h'
    cases h' with
    | nil => exact ⟨none, 0, rfl, fun hk => absurd hk (by simp), fun hk => absurd hk (by simp)⟩
    | emp _ _ a => exact ⟨some a, 0, rfl, fun hk => absurd hk (by simp), fun hk => absurd hk (by simp)⟩
    | list b o cap sz nl rws val =>
      injection hc with _ _ hr
      subst hr
      exact ⟨some ⟨b, o, none⟩, cap, rfl, fun hk => absurd hk (by simp), fun hk => absurd hk (by simp)⟩
    | _ => cases hc
  · have e : (if rows.isEmpty = true then 0 else sz) = sz := by cases rows <;> simp_all
    rw [e] at hv
    generalize hc : C.list sz none rows = c at hv
    cases hv with
    | nil => injection hc with _ _ hr; exact absurd hr h0
    | emp => injection hc with _ _ hr; exact absurd hr h0
    | list b o cap sz nl rws val h1 h2 h3 h4 h5 h6 h7 =>
      injection hc with hs _ hr
      subst hs hr
      refine ⟨some ⟨b, o, none⟩, cap, rfl, fun _ => ⟨b, o, rfl, fun k u hu => ?_⟩, fun _ => h2⟩
      rw [cellsC, List.getElem?_map] at hu
      obtain ⟨c, hc, rfl⟩ := Option.map_eq_some_iff.1 hu
      obtain ⟨i, j, r, g1, g2, rfl⟩ := flat_get h.pos rows k c h.len hc
      rw [h6 i j r c g1 g2, sc_val (h.sc r (List.mem_of_getElem? g1) c (List.mem_of_getElem? g2)) (h7 i j r c g1 g2)]
    | _ => cases hc
theorem tb1 {n τ : Nat} {a x : O} (h : tabOf n [a] τ = some x) : τ = n ∧ x = a := by
  unfold tabOf at h
  split at h
  · rename_i hle
    obtain ⟨k, rfl⟩ : ∃ k, τ = n + k := ⟨τ - n, by omega⟩
    rw [Nat.add_sub_cancel_left] at h
    match k, h with
    | 0, h => simp at h; exact ⟨rfl, h.symm⟩
    | k + 1, h => simp at h
  · cases h
theorem tb1n {n τ : Nat} {a : O} (h : tabOf n [a] τ ≠ none) : τ = n := by
  cases e : tabOf n [a] τ with
  | none => exact absurd e h
  | some x => exact (tb1 e).1
def encIs (l : List Int) : List C := [lstC 1 (ints l)]
def ill (l : List (List Int)) : List (List C) := l.map encIs
theorem ill_len (l : List (List Int)) : (ill l).length = l.length := by simp [ill]
theorem ill_at {l : List (List Int)} {i : Nat} (h : i < l.length) : (ill l).getD i [] = [lstC 1 (ints l[i])] := by simp [ill, encIs, h]
theorem normRows_ill (l : List (List Int)) : C.normRows (ill l) = ill l := normRows_eq (f := encIs) (fun x => by simp only [encIs, C.normRow, norm_lst, normRows_ints]) l
theorem rrep_ill {w w' : World} {Z : Bk → Prop} {e g : Nat} {ls : List (List Int)} {V : Nat → Value} (hG : GlobB (base w)) (hb : Below w.heap.size w w') (hg : w.heap.size ≤ g) (hn : ls.length ≤ maxLen) (hr : w'.rowIs g e ls.length V)
    (ho : ∀ i, i < ls.length → w'.ownsRow (g + 1) 3 1 (V i) (ls.getD i []).length ((ls.getD i []).map (Value.int .i64))) : RRep (base w) Z (.k (.newl e 1 none (ill ls))) (.slice (some ⟨g, 0, none⟩) ls.length ls.length) w' := by
  intro nn
  obtain ⟨cur, hc, hsz, hV⟩ := hr
  have hgl : g < w'.heap.size := (Array.getElem?_eq_some_iff.1 hc).1
  refine ⟨fun _ => some g, kept_of_below hb, hG, fun τ b _ h => ?_, fun τ τ' b ho ho' _ _ => (tb1n ho).trans (tb1n ho').symm, fun τ ob h => ?_, fun s => ?_⟩
  · cases h; exact ⟨Nat.not_lt.2 hg, hgl⟩
  · obtain ⟨rfl, rfl⟩ := tb1 h
    refine .inr ⟨g, cur, ls.length, rfl, hc, by decide, by rw [hsz, Nat.mul_one], by rw [ill_len]; exact Nat.le_refl _, hn, by simp, fun r hr => by obtain ⟨l, _, rfl⟩ := List.mem_map.1 hr; rfl, ?_⟩
    intro i j r c hr hcc
    have hi : i < ls.length := by have := (List.getElem?_eq_some_iff.1 hr).1; rwa [ill_len] at this
    have hr' : r = encIs ls[i] := by simp [ill, hi] at hr; exact hr.symm
    subst hr'
    match j, hcc with
    | 0, hcc =>
      simp [encIs] at hcc
      subst hcc
      refine ⟨V i, by rw [Nat.mul_one, Nat.add_zero]; exact hV i hi, ?_⟩
      have h := ho i hi
      have hgd : ls.getD i [] = ls[i] := by simp [List.getD, hi]
      rw [hgd] at h
      rcases h.2 with ⟨hv, h0⟩ | ⟨g2, cap, cur2, hv, h2, h3, h4, h5, h6, h7⟩
      · rw [hv, List.eq_nil_of_length_eq_zero h0]
        exact .nil _ _ (by simp)
      · rw [hv]
        have hl : (ints ls[i]).length = ls[i].length := ints_len _
        have key : PRep w' (Zof (base w) Z (fun _ => some g) (tabOf τ [.arr e 1 none (ill ls)]) w') (.list (if (ints ls[i]).isEmpty then 0 else 1) none (ints ls[i])) (.slice (some ⟨g2, 0, none⟩) (ints ls[i]).length cap) := by
          refine .list g2 0 cap _ none (ints ls[i]) (fun a b => .int .i64 (ls[i].getD a 0)) (by simp) (by rw [hl]; exact h4) h5 (fun hne => ?_) (fun r hr => ?_) (fun a b r c hr hcc => ?_) (fun a b r c hr hcc => ?_)
          · refine ⟨.inr ⟨Nat.not_lt.2 (show w.heap.size ≤ g2 by omega), fun cur' e' f' hh => ?_⟩, (Array.getElem?_eq_some_iff.1 h3).1, fun τ _ hk => by injection hk with hk; omega⟩
            have hh' : w'.heap[g2]? = some (.cells cur' e' f') := hh
            rw [h3] at hh'; cases hh'; rfl
          · obtain ⟨x, hx, rfl⟩ := List.mem_map.1 hr
            have : (ints ls[i]).isEmpty = false := by
              rw [ints_isEmpty]; cases hq : ls[i] with
              | nil => rw [hq] at hx; cases hx
              | cons => rfl
            rw [this]; rfl
          all_goals
            have ha : a < ls[i].length := by have := (List.getElem?_eq_some_iff.1 hr).1; rwa [hl] at this
            have hr' : r = [.int .i64 ls[i][a]] := by simp [ints, ha] at hr; exact hr.symm
            subst hr'
            match b, hcc with
            | 0, hcc =>
              simp at hcc
              subst hcc
              have e0 : ls[i].getD a 0 = ls[i][a] := by simp [List.getD, ha]
              rw [e0]
              first
                | exact .int _ _
                | (have hne : (ints ls[i]).isEmpty = false := by
                     rw [ints_isEmpty]; cases hq : ls[i] with
                     | nil => rw [hq] at ha; exact absurd ha (by simp)
                     | cons => rfl
                   rw [hne]
                   have h8 := congrArg (fun l : List Value => l[a]?) h7
                   simp only [Nat.mul_one, List.getElem?_take_of_lt ha, List.getElem?_map, List.getElem?_eq_getElem ha, Option.map_some] at h8
                   rw [Array.getElem?_toList] at h8
                   simp only [World.cell?, h3]
                   simpa using h8)
        rw [hl] at key
        exact key
    | j + 1, hcc => simp [encIs] at hcc
  · by_cases hs : s = 0
    · subst hs
      simp only [if_true]
      refine ⟨rfl, fun e' sz' nl' rows' h => ?_⟩
      obtain ⟨_, h2⟩ := tb1 h
      cases h2
      exact .inr ⟨g, cur, ls.length, rfl, hc, by rw [hsz, Nat.mul_one], by rw [ill_len]; rfl⟩
    · simp only [hs, if_false]; trivial
end Go.Abs


set_option maxRecDepth 100000
namespace Go.Abs
structure Dr where
  d : Int
  a : Int
  s : Int
  y : Int
  u : Int
  c : Int
def dr0 : Dr := ⟨0, 0, 0, 0, 0, 0⟩
def dat (l : List Dr) (i : Int) : Dr := l.getD i.toNat dr0
def CovOk (l : List Dr) : Prop := ∀ i : Int, 0 ≤ i → i < l.length → (dat l i).c = -1 ∨ (0 ≤ (dat l i).c ∧ (dat l i).c < i)
def anc (l : List Dr) : Nat → Int → Int
  | 0, x => x
  | k + 1, x => (dat l (anc l k x)).c
theorem anc_add (l : List Dr) (i : Nat) (x : Int) : ∀ j, anc l (i + j) x = anc l j (anc l i x)
  | 0 => rfl
  | j + 1 => by
    show (dat l (anc l (i + j) x)).c = (dat l (anc l j (anc l i x))).c
    rw [anc_add l i x j]
def vld (l : List Dr) (x : Int) (k : Nat) : Prop := x < l.length ∧ ∀ j, j ≤ k → 0 ≤ anc l j x
theorem vld.le {l : List Dr} {x : Int} {k j : Nat} (h : vld l x k) (hj : j ≤ k) : vld l x j := ⟨h.1, fun i hi => h.2 i (by omega)⟩
theorem vld.dec {l : List Dr} (hc : CovOk l) {x : Int} {k : Nat} (h : vld l x k) : ∀ j, j ≤ k → anc l j x + j ≤ x
  | 0, _ => by simp [anc]
  | j + 1, hj => by
    have ih := h.dec hc j (by omega)
    have h0 := h.2 j (by omega)
    have h1 := h.2 (j + 1) hj
    have hr := hc (anc l j x) h0 (by have := h.1; omega)
    have e : anc l (j + 1) x = (dat l (anc l j x)).c := rfl
    rw [e] at h1 ⊢
    push_cast
    omega
theorem vld.rng {l : List Dr} (hc : CovOk l) {x : Int} {k j : Nat} (h : vld l x k) (hj : j ≤ k) : 0 ≤ anc l j x ∧ anc l j x < l.length := ⟨h.2 j hj, by have := h.dec hc j hj; have := h.1; omega⟩
theorem vld.up {l : List Dr} (hc : CovOk l) {x : Int} {k j i : Nat} (h : vld l x k) (hj : j + i ≤ k) : vld l (anc l j x) i := ⟨(h.rng hc (by omega)).2, fun m hm => by rw [← anc_add]; exact h.2 _ (by omega)⟩
theorem vld.lt {l : List Dr} (hc : CovOk l) {x : Int} {k i j : Nat} (h : vld l x k) (hij : i < j) (hj : j ≤ k) : anc l j x < anc l i x := by
  have h1 := (h.up hc (j := i) (i := j - i) (by omega)).dec hc (j - i) (Nat.le_refl _)
  rw [← anc_add, show i + (j - i) = j by omega] at h1
  omega
theorem vld.inj {l : List Dr} (hc : CovOk l) {x : Int} {k i j : Nat} (h : vld l x k) (hi : i ≤ k) (hj : j ≤ k) (e : anc l i x = anc l j x) : i = j := by
  rcases Nat.lt_trichotomy i j with g | g | g
  · have := h.lt hc g hj; omega
  · exact g
  · have := h.lt hc g hi; omega
def chn (l : List Dr) (x : Int) (k : Nat) : List Int := ((List.range (k + 1)).map fun j => anc l j x).reverse
theorem chn_len (l : List Dr) (x : Int) (k : Nat) : (chn l x k).length = k + 1 := by simp [chn]
theorem chn_at {l : List Dr} {x : Int} {k i : Nat} (h : i < (chn l x k).length) : (chn l x k)[i] = anc l (k - i) x := by
  simp [chn, List.getElem_reverse]
theorem chn_getD {l : List Dr} {x : Int} {k i : Nat} (h : i ≤ k) : (chn l x k).getD i 0 = anc l (k - i) x := by
  rw [List.getD_eq_getElem?_getD, List.getElem?_eq_getElem (by rw [chn_len]; omega), Option.getD_some, chn_at]
theorem chn_succ (l : List Dr) (x : Int) (k : Nat) : chn l x (k + 1) = anc l (k + 1) x :: chn l x k := by
  unfold chn
  rw [List.range_succ, List.map_append, List.reverse_append]; rfl
theorem chn_ne (l : List Dr) (x : Int) (k : Nat) : chn l x k ≠ [] := by intro h; have := chn_len l x k; rw [h] at this; cases this
def clo (l : List Dr) (x : Int) (k : Nat) : Prop := 1 ≤ k ∧ vld l x k ∧ (dat l (anc l k x)).d = (dat l x).a
def isK (l : List Dr) (x : Int) (k : Nat) : Prop := clo l x k ∧ ∀ j i, clo l (anc l j x) i → j + i ≤ k → j = 0 ∧ i = k
theorem isK.uniq {l : List Dr} {x : Int} {k k' : Nat} (h : isK l x k) (h' : isK l x k') : k = k' := by
  rcases Nat.le_total k k' with g | g
  · exact (h'.2 0 k h.1 (by omega)).2
  · exact ((h.2 0 k' h'.1 (by omega)).2).symm
def upG (l : List Dr) (a : Int) : Nat → Int → List Int → List Int
  | 0, _, _ => []
  | m + 1, i, ch => if i = -1 then [] else if (dat l i).d = a then (ch ++ [i]).reverse else upG l a m (dat l i).c (ch ++ [i])
def closG (l : List Dr) (x : Int) : List Int := upG l (dat l x).a l.length (dat l x).c [x]
theorem chn_rev (l : List Dr) (x : Int) (k : Nat) : (chn l x k).reverse ++ [anc l (k + 1) x] = (chn l x (k + 1)).reverse := by
  rw [chn_succ, List.reverse_cons]
theorem upG_spec {l : List Dr} (hc : CovOk l) {x : Int} : ∀ (m k : Nat), vld l x k → anc l (k + 1) x < m → (∀ i, 1 ≤ i → i ≤ k → (dat l (anc l i x)).d ≠ (dat l x).a) →
    (upG l (dat l x).a m (anc l (k + 1) x) (chn l x k).reverse = [] ∧ ∀ i, ¬ clo l x i) ∨ ∃ i, upG l (dat l x).a m (anc l (k + 1) x) (chn l x k).reverse = chn l x i ∧ clo l x i ∧ ∀ j, clo l x j → i ≤ j
  | m, k, hv, hm, hn => by
    have hr := hc (anc l k x) (hv.rng hc (Nat.le_refl k)).1 (hv.rng hc (Nat.le_refl k)).2
    have e : anc l (k + 1) x = (dat l (anc l k x)).c := rfl
    have hno : ∀ i, clo l x i → k + 1 ≤ i := fun i hi => Classical.byContradiction fun h => hn i hi.1 (by omega) hi.2.2
    by_cases h1 : anc l (k + 1) x = -1
    · refine .inl ⟨?_, fun i hi => ?_⟩
      · cases m with
        | zero => rfl
        | succ m => rw [upG, if_pos h1]
      · have := hno i hi
        have := hi.2.1.2 (k + 1) (by omega)
        omega
    · have h0 : 0 ≤ anc l (k + 1) x := by rw [e] at h1 ⊢; omega
      have hv1 : vld l x (k + 1) := ⟨hv.1, fun j hj => by
        by_cases ej : j = k + 1
        · rw [ej]; exact h0
        · exact hv.2 j (by omega)⟩
      cases m with
      | zero => omega
      | succ m =>
        rw [upG, if_neg h1]
        by_cases h2 : (dat l (anc l (k + 1) x)).d = (dat l x).a
        · rw [if_pos h2, chn_rev, List.reverse_reverse]
          exact .inr ⟨k + 1, rfl, ⟨by omega, hv1, h2⟩, hno⟩
        · rw [if_neg h2, chn_rev]
          have hl := hv1.lt hc (Nat.lt_succ_self k) (Nat.le_refl _)
          have hr2 := hc (anc l (k + 1) x) h0 (hv1.rng hc (Nat.le_refl _)).2
          have e2 : anc l (k + 1 + 1) x = (dat l (anc l (k + 1) x)).c := rfl
          refine upG_spec hc m (k + 1) hv1 (by rw [e2]; push_cast at hm; omega) fun i i1 i2 => ?_
          by_cases ei : i = k + 1
          · rw [ei]; exact h2
          · exact hn i i1 (by omega)
theorem closG_spec {l : List Dr} (hc : CovOk l) {x : Int} (h0 : 0 ≤ x) (hx : x < l.length) : (closG l x = [] ∧ ∀ i, ¬ clo l x i) ∨ ∃ i, closG l x = chn l x i ∧ clo l x i ∧ ∀ j, clo l x j → i ≤ j := by
  have := hc x h0 hx
  exact upG_spec hc l.length 0 ⟨hx, fun j hj => by obtain rfl : j = 0 := by omega
                                                   exact h0⟩ (by show (dat l x).c < _; omega) (fun i h1 h2 => by omega)
def firstG (l : List Dr) (x : Int) : Int := (closG l x).headD (-1)
def wholeG (l : List Dr) (x : Int) : Bool := decide (closG l x ≠ []) && ((closG l x).dropLast.all fun y => decide (firstG l y < (closG l x).headD (-1)))
theorem chn_head (l : List Dr) (x : Int) (k : Nat) (z : Int) : (chn l x k).headD z = anc l k x := by
  cases k with
  | zero => rfl
  | succ k => rw [chn_succ]; rfl
theorem chn_mem {l : List Dr} {x y : Int} {k : Nat} : y ∈ chn l x k ↔ ∃ j, j ≤ k ∧ y = anc l j x := by
  unfold chn
  simp only [List.mem_reverse, List.mem_map, List.mem_range]
  constructor
  · rintro ⟨j, h1, h2⟩; exact ⟨j, by omega, h2.symm⟩
  · rintro ⟨j, h1, h2⟩; exact ⟨j, by omega, h2.symm⟩
theorem chn_dropLast (l : List Dr) (x : Int) (k : Nat) : (chn l x (k + 1)).dropLast = chn l (anc l 1 x) k := by
  apply List.ext_getElem
  · rw [List.length_dropLast, chn_len, chn_len]; omega
  · intro i h1 h2
    rw [chn_len] at h2
    rw [List.getElem_dropLast, chn_at, chn_at, ← anc_add]
    congr 1; omega
theorem firstG_lt {l : List Dr} (hc : CovOk l) {x : Int} {k : Nat} (hv : vld l x k) : ∀ j, j ≤ k → (firstG l (anc l j x) < anc l k x ↔ ∀ i, clo l (anc l j x) i → k < j + i) := by
  intro j hj
  obtain ⟨r0, r1⟩ := hv.rng hc hj
  have hk := hv.2 k (Nat.le_refl k)
  unfold firstG
  rcases closG_spec hc r0 r1 with ⟨h1, h2⟩ | ⟨i, h1, h2, h3⟩
  · rw [h1]
    exact ⟨fun _ i hi => absurd hi (h2 i), fun _ => by show (-1 : Int) < _; omega⟩
  · rw [h1, chn_head, ← anc_add]
    constructor
    · intro h i' hi'
      have := h3 i' hi'
      refine Classical.byContradiction fun hn => ?_
      rcases Nat.lt_or_ge (j + i) k with g | g
      · have := hv.lt hc g (Nat.le_refl k); omega
      · have : j + i = k := by omega
        rw [this] at h; omega
    · intro h
      have hi := h i h2
      have hv2 : vld l (anc l j x) i := h2.2.1
      have hl := hv2.lt hc (i := k - j) (j := i) (by omega) (Nat.le_refl i)
      rw [← anc_add, ← anc_add, show j + (k - j) = k by omega] at hl
      exact hl
theorem whole_iff {l : List Dr} (hc : CovOk l) {x : Int} (h0 : 0 ≤ x) (hx : x < l.length) : (wholeG l x = true ↔ ∃ k, isK l x k) ∧ ∀ k, isK l x k → closG l x = chn l x k := by
  rcases closG_spec hc h0 hx with ⟨h1, h2⟩ | ⟨i, h1, h2, h3⟩
  · refine ⟨⟨fun h => ?_, fun ⟨k, hk⟩ => absurd hk.1 (h2 k)⟩, fun k hk => absurd hk.1 (h2 k)⟩
    unfold wholeG at h
    rw [h1] at h; simp at h
  · have hki : ∀ k, isK l x k → k = i := fun k hk => by
      have := h3 k hk.1
      exact ((hk.2 0 i h2 (by omega)).2).symm
    refine ⟨⟨fun h => ⟨i, h2, fun j i' hj hle => ?_⟩, fun ⟨k, hk⟩ => ?_⟩, fun k hk => by rw [hki k hk, h1]⟩
    · unfold wholeG at h
      rw [h1, chn_head] at h
      simp only [Bool.and_eq_true, List.all_eq_true, decide_eq_true_eq] at h
      by_cases ej : j = 0
      · subst ej
        have := h3 i' hj
        exact ⟨rfl, by omega⟩
      · obtain ⟨i0, rfl⟩ : ∃ i0, i = i0 + 1 := ⟨i - 1, by have := h2.1; omega⟩
        have h4 := h.2 (anc l j x) (by
          rw [chn_dropLast]
          exact chn_mem.2 ⟨j - 1, by have := hj.1; omega, by rw [← anc_add]; congr 1; omega⟩)
        have := (firstG_lt hc h2.2.1 j (by omega)).1 h4 i' hj
        omega
    · obtain rfl := hki k hk
      unfold wholeG
      rw [h1, chn_head]
      simp only [Bool.and_eq_true, List.all_eq_true, decide_eq_true_eq]
      refine ⟨chn_ne _ _ _, fun y hy => ?_⟩
      obtain ⟨k0, rfl⟩ : ∃ k0, k = k0 + 1 := ⟨k - 1, by have := h2.1; omega⟩
      rw [chn_dropLast] at hy
      obtain ⟨j, hj, rfl⟩ := chn_mem.1 hy
      rw [← anc_add]
      refine (firstG_lt hc h2.2.1 (1 + j) (by omega)).2 fun i hi => ?_
      refine Classical.byContradiction fun hn => ?_
      have := (hk.2 (1 + j) i hi (by omega)).1
      omega
end Go.Abs


set_option maxRecDepth 100000
namespace Go.Abs
def hdI (l : List Int) : Int := l.getD 0 0
def upR (l : List Dr) (first : Int) : Nat → List Int → List Int
  | 0, out => out
  | m + 1, out => if hdI out > first then (if (dat l (hdI out)).c < first then [] else upR l first m ((dat l (hdI out)).c :: out)) else out
def chainR (l : List Dr) (first last : Int) : List Int := upR l first (last - first).toNat [last]
theorem hdI_chn (l : List Dr) (x : Int) (k : Nat) : hdI (chn l x k) = anc l k x := by
  cases k with
  | zero => rfl
  | succ k => rw [chn_succ]; rfl
theorem upR_spec {l : List Dr} (hc : CovOk l) {x first : Int} (h0 : 0 ≤ first) : ∀ (m k : Nat), vld l x k → first ≤ anc l k x → anc l k x ≤ first + m →
    (upR l first m (chn l x k) = [] ∧ ∀ i, vld l x i → anc l i x ≠ first) ∨ ∃ i, upR l first m (chn l x k) = chn l x i ∧ vld l x i ∧ anc l i x = first
  | 0, k, hv, h1, h2 => .inr ⟨k, rfl, hv, by omega⟩
  | m + 1, k, hv, h1, h2 => by
    rw [upR, hdI_chn]
    have hr := hc (anc l k x) (hv.rng hc (Nat.le_refl k)).1 (hv.rng hc (Nat.le_refl k)).2
    have e : anc l (k + 1) x = (dat l (anc l k x)).c := rfl
    by_cases g : anc l k x > first
    · rw [if_pos g]
      by_cases g2 : (dat l (anc l k x)).c < first
      · rw [if_pos g2]
        refine .inl ⟨rfl, fun i hi he => ?_⟩
        rcases Nat.lt_or_ge k i with c | c
        · by_cases ci : i = k + 1
          · rw [ci, e] at he; omega
          · have := hi.lt hc (i := k + 1) (j := i) (by omega) (Nat.le_refl i)
            omega
        · by_cases ci : i = k
          · subst ci; omega
          · have := hv.lt hc (i := i) (j := k) (by omega) (Nat.le_refl k)
            omega
      · rw [if_neg g2, ← e, ← chn_succ]
        have hv1 : vld l x (k + 1) := ⟨hv.1, fun j hj => by
          by_cases ej : j = k + 1
          · rw [ej, e]; omega
          · exact hv.2 j (by omega)⟩
        have := hv1.lt hc (Nat.lt_succ_self k) (Nat.le_refl _)
        exact upR_spec hc h0 m (k + 1) hv1 (by rw [e]; omega) (by push_cast at h2; omega)
    · rw [if_neg g]
      exact .inr ⟨k, rfl, hv, by omega⟩
theorem vld_zero {l : List Dr} {x : Int} (h0 : 0 ≤ x) (hx : x < l.length) : vld l x 0 := by
  refine ⟨hx, fun j hj => ?_⟩
  obtain rfl : j = 0 := by omega
  exact h0
theorem chainR_spec {l : List Dr} (hc : CovOk l) {x first : Int} (h0 : 0 ≤ first) (h1 : first ≤ x) (hx : x < l.length) :
    (chainR l first x = [] ∧ ∀ i, vld l x i → anc l i x ≠ first) ∨ ∃ i, chainR l first x = chn l x i ∧ vld l x i ∧ anc l i x = first :=
  upR_spec hc h0 (x - first).toNat 0 (vld_zero (by omega) hx) (by show first ≤ x; omega) (by show x ≤ _; omega)
def closesR (l : List Dr) (first last : Int) : Bool := decide ((chainR l first last).length > 1) && decide ((dat l last).a = (dat l first).d)
theorem closesR_iff {l : List Dr} (hc : CovOk l) {x first : Int} (h0 : 0 ≤ first) (h1 : first ≤ x) (hx : x < l.length) : closesR l first x = true ↔ ∃ k, anc l k x = first ∧ clo l x k := by
  unfold closesR
  simp only [Bool.and_eq_true, decide_eq_true_eq]
  rcases chainR_spec hc h0 h1 hx with ⟨e, h⟩ | ⟨i, e, hv, hi⟩
  · rw [e]
    exact ⟨fun h => absurd h.1 (by simp), fun ⟨k, hk1, hk2⟩ => absurd hk1 (h k hk2.2.1)⟩
  · rw [e, chn_len]
    constructor
    · rintro ⟨h1, h2⟩
      exact ⟨i, hi, by omega, hv, by rw [hi]; exact h2.symm⟩
    · rintro ⟨k, hk1, hk2, hk3, hk4⟩
      have : i = k := by
        rcases Nat.lt_trichotomy i k with g | g | g
        · have := hk3.lt hc g (Nat.le_refl k); omega
        · exact g
        · have := hv.lt hc g (Nat.le_refl i); omega
      subst this
      exact ⟨by omega, by rw [← hi]; exact hk4.symm⟩
def kiteR (l : List Dr) (first last : Int) : Bool :=
  closesR l first last && (List.range (chainR l first last).length).all fun i => (List.range (chainR l first last).length).all fun j =>
    !(decide (i < j) && decide (j - i + 1 < (chainR l first last).length) && closesR l ((chainR l first last).getD i 0) ((chainR l first last).getD j 0))
theorem kiteR_iff {l : List Dr} (hc : CovOk l) {x first : Int} (h0 : 0 ≤ first) (h1 : first ≤ x) (hx : x < l.length) : kiteR l first x = true ↔ ∃ k, anc l k x = first ∧ isK l x k := by
  unfold kiteR
  rw [Bool.and_eq_true]
  have key : ∀ k, anc l k x = first → clo l x k → chainR l first x = chn l x k := by
    intro k hk hcl
    rcases chainR_spec hc h0 h1 hx with ⟨e, h⟩ | ⟨i, e, hv, hi⟩
    · exact absurd hk (h k hcl.2.1)
    · rw [e]
      have : i = k := by
        rcases Nat.lt_trichotomy i k with g | g | g
        · have := hcl.2.1.lt hc g (Nat.le_refl k); omega
        · exact g
        · have := hv.lt hc g (Nat.le_refl i); omega
      rw [this]
  have sub : ∀ k, anc l k x = first → clo l x k → (((List.range (chainR l first x).length).all fun i => (List.range (chainR l first x).length).all fun j =>
    !(decide (i < j) && decide (j - i + 1 < (chainR l first x).length) && closesR l ((chainR l first x).getD i 0) ((chainR l first x).getD j 0))) = true ↔ isK l x k) := by
    intro k hk hcl
    rw [key k hk hcl]
    have hv := hcl.2.1
    simp only [List.all_eq_true, List.mem_range, chn_len, Bool.not_eq_true', Bool.and_eq_false_iff, decide_eq_false_iff_not]
    constructor
    · intro h
      refine ⟨hcl, fun j i hji hle => ?_⟩
      have hi1 := hji.1
      refine Classical.byContradiction fun hn => ?_
      have hp := h (k - (j + i)) (by omega) (k - j) (by omega)
      rw [chn_getD (by omega), chn_getD (by omega), show k - (k - (j + i)) = j + i by omega, show k - (k - j) = j by omega] at hp
      have hr1 := hv.rng hc (j := j + i) hle
      have hr2 := hv.rng hc (j := j) (by omega)
      have hlt := hv.lt hc (i := j) (j := j + i) (by omega) hle
      rcases hp with (hp | hp) | hp
      · omega
      · exact hn (by omega)
      · have := (closesR_iff hc hr1.1 (by omega) hr2.2).2 ⟨i, by rw [← anc_add], hji⟩
        rw [this] at hp; cases hp
    · rintro ⟨_, h⟩ i hi j hj
      by_cases g1 : i < j
      · by_cases g2 : j - i + 1 < k + 1
        · refine .inr ?_
          rw [chn_getD (by omega), chn_getD (by omega)]
          have hr1 := hv.rng hc (j := k - i) (by omega)
          have hr2 := hv.rng hc (j := k - j) (by omega)
          have hlt := hv.lt hc (i := k - j) (j := k - i) (by omega) (by omega)
          cases hcs : closesR l (anc l (k - i) x) (anc l (k - j) x) with
          | false => rfl
          | true =>
            obtain ⟨m, hm1, hm2⟩ := (closesR_iff hc hr1.1 (by omega) hr2.2).1 hcs
            rw [← anc_add] at hm1
            have hm3 : k - j + m = k - i := by
              have hvm : vld l x (k - j + m) := ⟨hv.1, fun q hq => by
                by_cases hqj : q ≤ k - j
                · exact hv.2 q (by omega)
                · have := hm2.2.1.2 (q - (k - j)) (by omega)
                  rwa [← anc_add, show k - j + (q - (k - j)) = q by omega] at this⟩
              rcases Nat.lt_trichotomy (k - j + m) (k - i) with g | g | g
              · have := hv.lt hc g (by omega); omega
              · exact g
              · have := hvm.lt hc g (Nat.le_refl _); omega
            have := h (k - j) m hm2 (by omega)
            omega
        · exact .inl (.inr g2)
      · exact .inl (.inl g1)
  constructor
  · rintro ⟨h1', h2⟩
    obtain ⟨k, hk, hcl⟩ := (closesR_iff hc h0 h1 hx).1 h1'
    exact ⟨k, hk, (sub k hk hcl).1 h2⟩
  · rintro ⟨k, hk, hik⟩
    exact ⟨(closesR_iff hc h0 h1 hx).2 ⟨k, hk, hik.1⟩, (sub k hk hik.1).2 hik⟩
structure Ki where
  dr : List Int
  fi : List Int
  mo : Int
def sumI (l : List Int) : Int := l.foldl (· + ·) 0
def covS (l : List Dr) (i : Int) : Int := sumI ((l.filter fun x => decide (x.c = i)).map Dr.s)
def ownAt (l : List Dr) (i : Int) : Int := max 0 ((dat l i).s - covS l i)
def kiOf (l : List Dr) (c : List Int) : Ki := ⟨c, c.map fun i => (dat l i).d, sumI (c.dropLast.map (ownAt l))⟩
def bef : List Int → List Int → Bool
  | a :: x, b :: y => if a ≠ b then decide (a < b) else bef x y
  | _, _ => false
theorem bef_irr : ∀ x, bef x x = false
  | [] => rfl
  | a :: x => by rw [bef, if_neg (by simp)]; exact bef_irr x
theorem bef_trans : ∀ x y z, bef x y = true → bef y z = true → bef x z = true
  | [], _, _, h, _ => absurd h (by simp [bef])
  | _ :: _, [], _, h, _ => absurd h (by simp [bef])
  | _ :: _, _ :: _, [], _, h => absurd h (by simp [bef])
  | a :: x, b :: y, c :: z, h1, h2 => by
    rw [bef] at h1 h2 ⊢
    by_cases e1 : a = b
    · subst e1
      rw [if_neg (by simp)] at h1
      by_cases e2 : a = c
      · subst e2
        rw [if_neg (by simp)] at h2 ⊢
        exact bef_trans x y z h1 h2
      · rw [if_pos e2] at h2 ⊢; exact h2
    · rw [if_pos e1] at h1
      have h1 := of_decide_eq_true h1
      by_cases e2 : b = c
      · subst e2
        rw [if_pos (by omega)]; exact decide_eq_true h1
      · rw [if_pos e2] at h2
        have h2 := of_decide_eq_true h2
        rw [if_pos (by omega)]; exact decide_eq_true (by omega)
theorem bef_total : ∀ x y : List Int, x.length = y.length → x ≠ y → bef x y = false → bef y x = true
  | [], [], _, h, _ => absurd rfl h
  | [], _ :: _, h, _, _ => by simp at h
  | _ :: _, [], h, _, _ => by simp at h
  | a :: x, b :: y, hl, hn, h => by
    rw [bef] at h ⊢
    by_cases e : a = b
    · subst e
      rw [if_neg (by simp)] at h ⊢
      exact bef_total x y (by simpa using hl) (fun e2 => hn (by rw [e2])) h
    · rw [if_pos e] at h
      have := of_decide_eq_false h
      rw [if_pos (Ne.symm e)]; exact decide_eq_true (by omega)
def ltK (x y : Ki) : Bool := decide (x.dr.length < y.dr.length) || (decide (x.dr.length = y.dr.length) && bef x.dr y.dr)
theorem ltK_irr (x : Ki) : ltK x x = false := by simp [ltK, bef_irr]
theorem ltK_trans {x y z : Ki} (h1 : ltK x y = true) (h2 : ltK y z = true) : ltK x z = true := by
  unfold ltK at *
  simp only [Bool.or_eq_true, Bool.and_eq_true, decide_eq_true_eq] at *
  rcases h1 with h1 | ⟨h1, h3⟩ <;> rcases h2 with h2 | ⟨h2, h4⟩
  · exact .inl (by omega)
  · exact .inl (by omega)
  · exact .inl (by omega)
  · exact .inr ⟨by omega, bef_trans _ _ _ h3 h4⟩
theorem ltK_total {x y : Ki} (h : x.dr ≠ y.dr) (hn : ltK x y = false) : ltK y x = true := by
  unfold ltK at *
  simp only [Bool.or_eq_false_iff, decide_eq_false_iff_not, Bool.and_eq_false_iff, Bool.or_eq_true, Bool.and_eq_true, decide_eq_true_eq] at *
  by_cases e : x.dr.length = y.dr.length
  · rcases hn.2 with g | g
    · exact absurd e g
    · exact .inr ⟨e.symm, bef_total _ _ e h g⟩
  · exact .inl (by omega)
theorem ltK_swo {x y z : Ki} (h1 : ltK x y = false) (h2 : ltK y z = false) : ltK x z = false := by
  by_cases e1 : x.dr = y.dr
  · unfold ltK at *; rw [e1]; exact h2
  by_cases e2 : y.dr = z.dr
  · unfold ltK at *; rw [← e2]; exact h1
  have := ltK_trans (ltK_total e2 h2) (ltK_total e1 h1)
  cases h : ltK x z with
  | false => rfl
  | true => have := ltK_trans this h; rw [ltK_irr] at this; cases this
theorem sorted_ext : ∀ {l1 l2 : List Ki}, l1.Pairwise (fun x y => ltK x y = true) → l2.Pairwise (fun x y => ltK x y = true) → (∀ x, x ∈ l1 ↔ x ∈ l2) → l1 = l2
  | [], [], _, _, _ => rfl
  | [], b :: _, _, _, h => absurd ((h b).2 List.mem_cons_self) (by simp)
  | a :: _, [], _, _, h => absurd ((h a).1 List.mem_cons_self) (by simp)
  | a :: l1, b :: l2, h1, h2, h => by
    obtain ⟨p1, q1⟩ := List.pairwise_cons.1 h1
    obtain ⟨p2, q2⟩ := List.pairwise_cons.1 h2
    have hab : a = b := by
      rcases List.mem_cons.1 ((h a).1 List.mem_cons_self) with e | e
      · exact e
      · rcases List.mem_cons.1 ((h b).2 List.mem_cons_self) with e2 | e2
        · exact e2.symm
        · have := ltK_trans (p2 a e) (p1 b e2)
          rw [ltK_irr] at this; cases this
    subst hab
    rw [sorted_ext q1 q2 fun x => ?_]
    constructor
    · intro hx
      rcases List.mem_cons.1 ((h x).1 (List.mem_cons_of_mem _ hx)) with e | e
      · subst e; have := p1 x hx; rw [ltK_irr] at this; cases this
      · exact e
    · intro hx
      rcases List.mem_cons.1 ((h x).2 (List.mem_cons_of_mem _ hx)) with e | e
      · subst e; have := p2 x hx; rw [ltK_irr] at this; cases this
      · exact e
def insKi : List Ki → Ki → List Ki
  | [], k => [k]
  | x :: l, k => if bef k.dr x.dr = true then k :: x :: l else x :: insKi l k
theorem insKi_mem {k x : Ki} : ∀ {l : List Ki}, x ∈ insKi l k ↔ x = k ∨ x ∈ l
  | [] => by simp [insKi]
  | y :: l => by
    rw [insKi]
    split
    · simp
    · rw [List.mem_cons, insKi_mem, List.mem_cons]
      constructor
      · rintro (h | h | h)
        · exact .inr (.inl h)
        · exact .inl h
        · exact .inr (.inr h)
      · rintro (h | h | h)
        · exact .inr (.inl h)
        · exact .inl h
        · exact .inr (.inr h)
theorem insKi_sorted {k : Ki} {n : Nat} (hk : k.dr.length = n) : ∀ {l : List Ki}, l.Pairwise (fun x y => ltK x y = true) → (∀ x ∈ l, x.dr.length = n ∧ x.dr ≠ k.dr) → (insKi l k).Pairwise (fun x y => ltK x y = true)
  | [], _, _ => List.pairwise_singleton _ _
  | y :: l, h, hn => by
    obtain ⟨p, q⟩ := List.pairwise_cons.1 h
    obtain ⟨y1, y2⟩ := hn y List.mem_cons_self
    rw [insKi]
    split
    · rename_i hb
      have hky : ltK k y = true := by unfold ltK; simp [hk, y1, hb]
      refine List.pairwise_cons.2 ⟨fun x hx => ?_, h⟩
      rcases List.mem_cons.1 hx with e | e
      · rw [e]; exact hky
      · exact ltK_trans hky (p x e)
    · rename_i hb
      have hyk : ltK y k = true := by
        refine ltK_total (x := k) (y := y) (Ne.symm y2) ?_
        unfold ltK; simp [hk, y1, hb]
      refine List.pairwise_cons.2 ⟨fun x hx => ?_, insKi_sorted hk q fun x hx => hn x (List.mem_cons_of_mem _ hx)⟩
      rcases insKi_mem.1 hx with e | e
      · rw [e]; exact hyk
      · exact p x e
def foundR (l : List Dr) (n : Nat) (first : Int) (acc : List Ki) (last : Int) : List Ki :=
  if (chainR l first last).length = n ∧ kiteR l first last = true then insKi acc (kiOf l (chainR l first last)) else acc
def rangeI (lo : Int) (m : Nat) : List Int := (List.range m).map fun (i : Nat) => lo + (i : Int)
theorem rangeI_mem {lo x : Int} {m : Nat} : x ∈ rangeI lo m ↔ lo ≤ x ∧ x < lo + m := by
  unfold rangeI
  simp only [List.mem_map, List.mem_range]
  constructor
  · rintro ⟨i, hi, rfl⟩; omega
  · rintro ⟨h1, h2⟩; exact ⟨(x - lo).toNat, by omega, by omega⟩
def firstR (l : List Dr) (n : Nat) (first : Int) : List Ki := (rangeI (first + 1) ((l.length : Int) - (first + 1)).toNat).foldl (foundR l n first) []
def sizeR (l : List Dr) (n : Nat) : List Ki := (rangeI 0 l.length).flatMap (firstR l n)
def kitesR (l : List Dr) : List Ki := (rangeI 2 (l.length - 1)).flatMap fun n => sizeR l n.toNat
def isKi (l : List Dr) (x : Int) (k : Nat) (K : Ki) : Prop := 0 ≤ x ∧ isK l x k ∧ K = kiOf l (chn l x k)
theorem isKi.len {l : List Dr} {x : Int} {k : Nat} {K : Ki} (h : isKi l x k K) : K.dr.length = k + 1 ∧ hdI K.dr = anc l k x ∧ K.dr.getD k 0 = x := by
  obtain ⟨_, _, rfl⟩ := h
  refine ⟨chn_len l x k, hdI_chn l x k, ?_⟩
  show (chn l x k).getD k 0 = x
  rw [chn_getD (Nat.le_refl k), Nat.sub_self]; rfl
theorem foundR_spec {l : List Dr} (hc : CovOk l) {n : Nat} {first : Int} (h0 : 0 ≤ first) : ∀ m : Nat, first + 1 + m ≤ l.length →
    ((rangeI (first + 1) m).foldl (foundR l n first) []).Pairwise (fun x y => ltK x y = true) ∧ ∀ K, K ∈ (rangeI (first + 1) m).foldl (foundR l n first) [] ↔ ∃ x k, x ≤ first + m ∧ isKi l x k K ∧ k + 1 = n ∧ anc l k x = first
  | 0, _ => by
    refine ⟨List.Pairwise.nil, fun K => ⟨fun h => absurd h (by simp [rangeI]), ?_⟩⟩
    rintro ⟨x, k, h1, ⟨_, h2, _⟩, h3, h4⟩
    have h5 := h2.1.2.1.lt hc (i := 0) (j := k) (by have := h2.1.1; omega) (Nat.le_refl k)
    have e0 : anc l 0 x = x := rfl
    rw [e0] at h5
    simp at h1
    omega
  | m + 1, hm => by
    obtain ⟨ih1, ih2⟩ := foundR_spec hc h0 (n := n) m (by push_cast at hm; omega)
    have e : rangeI (first + 1) (m + 1) = rangeI (first + 1) m ++ [first + 1 + m] := by unfold rangeI; rw [List.range_succ, List.map_append]; rfl
    rw [e, List.foldl_append]
    generalize (rangeI (first + 1) m).foldl (foundR l n first) [] = acc at ih1 ih2 ⊢
    simp only [List.foldl_cons, List.foldl_nil]
    obtain ⟨x, hx⟩ : ∃ x, x = first + 1 + (m : Int) := ⟨_, rfl⟩
    rw [← hx]
    have hxl : x < l.length := by push_cast at hm; omega
    unfold foundR
    by_cases hk : (chainR l first x).length = n ∧ kiteR l first x = true
    · rw [if_pos hk]
      obtain ⟨k, hk1, hk2⟩ := (kiteR_iff hc h0 (by omega) hxl).1 hk.2
      have hch : chainR l first x = chn l x k := by
        rcases chainR_spec hc h0 (by omega) hxl with ⟨e, h⟩ | ⟨i, e, hv, hi⟩
        · exact absurd hk1 (h k hk2.1.2.1)
        · rw [e]
          have : i = k := by
            rcases Nat.lt_trichotomy i k with g | g | g
            · have := hk2.1.2.1.lt hc g (Nat.le_refl k); omega
            · exact g
            · have := hv.lt hc g (Nat.le_refl i); omega
          rw [this]
      rw [hch] at hk ⊢
      have hkn : k + 1 = n := by rw [← hk.1, chn_len]
      have hnew : isKi l x k (kiOf l (chn l x k)) := ⟨by omega, hk2, rfl⟩
      refine ⟨insKi_sorted (n := n) (by rw [← hkn]; exact hnew.len.1) ih1 fun y hy => ?_, fun K => ?_⟩
      · obtain ⟨x', k', h1, h2, h3, h4⟩ := (ih2 y).1 hy
        refine ⟨by rw [h2.len.1]; exact h3, fun e => ?_⟩
        have e1 := h2.len.2.2
        rw [e, show k' = k by omega, hnew.len.2.2] at e1
        omega
      · rw [insKi_mem, ih2]
        constructor
        · rintro (h | ⟨x', k', h1, h2, h3, h4⟩)
          · rw [h]; exact ⟨x, k, by push_cast; omega, hnew, hkn, hk1⟩
          · exact ⟨x', k', by push_cast; omega, h2, h3, h4⟩
        · rintro ⟨x', k', h1, h2, h3, h4⟩
          by_cases ex : x' = x
          · subst ex
            have : k' = k := h2.2.1.uniq hk2
            subst this
            exact .inl h2.2.2
          · exact .inr ⟨x', k', by push_cast at h1; omega, h2, h3, h4⟩
    · rw [if_neg hk]
      refine ⟨ih1, fun K => ?_⟩
      rw [ih2]
      constructor
      · rintro ⟨x', k', h1, h2, h3, h4⟩; exact ⟨x', k', by push_cast; omega, h2, h3, h4⟩
      · rintro ⟨x', k', h1, h2, h3, h4⟩
        refine ⟨x', k', ?_, h2, h3, h4⟩
        by_cases ex : x' = x
        · subst ex
          refine absurd ?_ hk
          have hkr := (kiteR_iff hc h0 (by omega) hxl).2 ⟨k', h4, h2.2.1⟩
          refine ⟨?_, hkr⟩
          rcases chainR_spec hc h0 (by omega) hxl with ⟨e, h⟩ | ⟨i, e, hv, hi⟩
          · exact absurd h4 (h k' h2.2.1.1.2.1)
          · rw [e, chn_len]
            have : i = k' := by
              rcases Nat.lt_trichotomy i k' with g | g | g
              · have := h2.2.1.1.2.1.lt hc g (Nat.le_refl k'); omega
              · exact g
              · have := hv.lt hc g (Nat.le_refl i); omega
            omega
        · push_cast at h1; omega
theorem firstR_spec {l : List Dr} (hc : CovOk l) {n : Nat} {first : Int} (h0 : 0 ≤ first) (h1 : first < l.length) :
    (firstR l n first).Pairwise (fun x y => ltK x y = true) ∧ ∀ K, K ∈ firstR l n first ↔ ∃ x k, isKi l x k K ∧ k + 1 = n ∧ anc l k x = first := by
  obtain ⟨a, b⟩ := foundR_spec hc h0 (n := n) ((l.length : Int) - (first + 1)).toNat (by omega)
  refine ⟨a, fun K => (b K).trans ⟨fun ⟨x, k, _, h⟩ => ⟨x, k, h⟩, fun ⟨x, k, h⟩ => ⟨x, k, ?_, h⟩⟩⟩
  have := h.1.2.1.1.2.1.1
  omega
theorem pw_flat {α : Type} {R : Ki → Ki → Prop} {f : α → List Ki} : ∀ {l : List α}, (∀ a ∈ l, (f a).Pairwise R) → l.Pairwise (fun a b => ∀ x ∈ f a, ∀ y ∈ f b, R x y) → (l.flatMap f).Pairwise R
  | [], _, _ => List.Pairwise.nil
  | a :: l, h1, h2 => by
    obtain ⟨p, q⟩ := List.pairwise_cons.1 h2
    rw [List.flatMap_cons, List.pairwise_append]
    refine ⟨h1 a List.mem_cons_self, pw_flat (fun b hb => h1 b (List.mem_cons_of_mem _ hb)) q, fun x hx y hy => ?_⟩
    obtain ⟨b, hb, hy⟩ := List.mem_flatMap.1 hy
    exact p b hb x hx y hy
theorem rangeI_sorted (lo : Int) (m : Nat) : (rangeI lo m).Pairwise (· < ·) := by
  unfold rangeI
  rw [List.pairwise_map]
  exact List.pairwise_lt_range.imp fun h => by omega
theorem pw_mem {α : Type} {R : α → α → Prop} {l : List α} (h : l.Pairwise R) : l.Pairwise fun a b => a ∈ l ∧ b ∈ l ∧ R a b := by
  refine List.Pairwise.imp_of_mem ?_ h
  intro a b ha hb hr
  exact ⟨ha, hb, hr⟩
theorem sizeR_spec {l : List Dr} (hc : CovOk l) {n : Nat} : (sizeR l n).Pairwise (fun x y => ltK x y = true) ∧ ∀ K, K ∈ sizeR l n ↔ ∃ x k, isKi l x k K ∧ k + 1 = n := by
  refine ⟨pw_flat (fun a ha => ?_) ((pw_mem (rangeI_sorted 0 l.length)).imp ?_), fun K => ?_⟩
  · have := rangeI_mem.1 ha
    exact (firstR_spec hc this.1 (by omega)).1
  · rintro a b ⟨ha, hb, hab⟩ x hx y hy
    have ha := rangeI_mem.1 ha
    have hb := rangeI_mem.1 hb
    obtain ⟨x1, k1, i1, i2, i3⟩ := ((firstR_spec hc ha.1 (by omega)).2 x).1 hx
    obtain ⟨x2, k2, j1, j2, j3⟩ := ((firstR_spec hc hb.1 (by omega)).2 y).1 hy
    have l1 := i1.len
    have l2 := j1.len
    have : bef x.dr y.dr = true := by
      cases hx : x.dr with
      | nil => rw [hx] at l1; simp at l1
      | cons p xs =>
        cases hy : y.dr with
        | nil => rw [hy] at l2; simp at l2
        | cons q ys =>
          have h1 := l1.2.1
          have h2 := l2.2.1
          rw [hx] at h1
          rw [hy] at h2
          have h1 : p = anc l k1 x1 := h1
          have h2 : q = anc l k2 x2 := h2
          rw [bef, if_pos (by omega)]
          exact decide_eq_true (by omega)
    unfold ltK
    rw [this, l1.1, l2.1]
    simp; omega
  · unfold sizeR
    rw [List.mem_flatMap]
    constructor
    · rintro ⟨f, hf, hK⟩
      have hf := rangeI_mem.1 hf
      obtain ⟨x, k, h1, h2, _⟩ := ((firstR_spec hc hf.1 (by omega)).2 K).1 hK
      exact ⟨x, k, h1, h2⟩
    · rintro ⟨x, k, h1, h2⟩
      have hr := h1.2.1.1.2.1.rng hc (Nat.le_refl k)
      exact ⟨anc l k x, rangeI_mem.2 ⟨hr.1, by omega⟩, ((firstR_spec hc hr.1 hr.2).2 K).2 ⟨x, k, h1, h2, rfl⟩⟩
theorem kitesR_spec {l : List Dr} (hc : CovOk l) : (kitesR l).Pairwise (fun x y => ltK x y = true) ∧ ∀ K, K ∈ kitesR l ↔ ∃ x k, isKi l x k K := by
  refine ⟨pw_flat (fun a ha => (sizeR_spec hc).1) ((pw_mem (rangeI_sorted 2 (l.length - 1))).imp ?_), fun K => ?_⟩
  · rintro a b ⟨ha, hb, hab⟩ x hx y hy
    have ha := rangeI_mem.1 ha
    obtain ⟨x1, k1, i1, i2⟩ := ((sizeR_spec hc).2 x).1 hx
    obtain ⟨x2, k2, j1, j2⟩ := ((sizeR_spec hc).2 y).1 hy
    unfold ltK
    rw [i1.len.1, j1.len.1]
    simp; omega
  · unfold kitesR
    rw [List.mem_flatMap]
    constructor
    · rintro ⟨n, _, hK⟩
      obtain ⟨x, k, h, _⟩ := ((sizeR_spec hc).2 K).1 hK
      exact ⟨x, k, h⟩
    · rintro ⟨x, k, h⟩
      have hv := h.2.1.1.2.1
      have h1 := h.2.1.1.1
      have h2 := hv.dec hc k (Nat.le_refl k)
      have h3 := hv.2 k (Nat.le_refl k)
      have h4 := hv.1
      exact ⟨(k : Int) + 1, rangeI_mem.2 ⟨by omega, by omega⟩, ((sizeR_spec hc).2 K).2 ⟨x, k, h, by omega⟩⟩
def rawG (l : List Dr) : List Ki := ((rangeI 0 l.length).filter (wholeG l)).map fun x => kiOf l (closG l x)
theorem rawG_mem {l : List Dr} (hc : CovOk l) (K : Ki) : K ∈ rawG l ↔ ∃ x k, isKi l x k K := by
  unfold rawG
  simp only [List.mem_map, List.mem_filter, rangeI_mem]
  constructor
  · rintro ⟨x, ⟨hx, hw⟩, rfl⟩
    obtain ⟨w1, w2⟩ := whole_iff hc hx.1 (by omega : x < l.length)
    obtain ⟨k, hk⟩ := w1.1 hw
    exact ⟨x, k, hx.1, hk, by rw [w2 k hk]⟩
  · rintro ⟨x, k, h0, hk, rfl⟩
    obtain ⟨w1, w2⟩ := whole_iff hc h0 hk.1.2.1.1
    exact ⟨x, ⟨⟨h0, by have := hk.1.2.1.1; omega⟩, w1.2 ⟨k, hk⟩⟩, by rw [w2 k hk]⟩
theorem isKi_inj {l : List Dr} {x y : Int} {k k' : Nat} {K L : Ki} (h : isKi l x k K) (h' : isKi l y k' L) (e : K.dr = L.dr) : x = y ∧ k = k' ∧ K = L := by
  have h1 := h.len
  have h2 := h'.len
  have hk : k = k' := by rw [e, h2.1] at h1; omega
  subst hk
  have hx : x = y := by rw [← h1.2.2, e, h2.2.2]
  subst hx
  exact ⟨rfl, rfl, by rw [h.2.2, h'.2.2]⟩
theorem kites_eq {l : List Dr} (hc : CovOk l) {out : List Ki} (hp : out.Perm (rawG l)) (hs : out.Pairwise fun x y => ltK y x = false) : out = kitesR l := by
  obtain ⟨r1, r2⟩ := kitesR_spec hc
  have hm : ∀ x, x ∈ out ↔ x ∈ kitesR l := fun x => by rw [hp.mem_iff, rawG_mem hc, r2]
  refine sorted_ext ?_ r1 hm
  have hnd : (rawG l).Pairwise fun x y => x.dr ≠ y.dr := by
    unfold rawG
    rw [List.pairwise_map]
    refine (pw_mem (List.Pairwise.filter (wholeG l) (rangeI_sorted 0 l.length))).imp ?_
    · rintro a b ⟨ha, hb, hab⟩ e
      obtain ⟨ha1, ha2⟩ := List.mem_filter.1 ha
      obtain ⟨hb1, hb2⟩ := List.mem_filter.1 hb
      have ha1 := rangeI_mem.1 ha1
      have hb1 := rangeI_mem.1 hb1
      obtain ⟨w1, w2⟩ := whole_iff hc ha1.1 (by omega : a < l.length)
      obtain ⟨v1, v2⟩ := whole_iff hc hb1.1 (by omega : b < l.length)
      obtain ⟨k, hk⟩ := w1.1 ha2
      obtain ⟨k', hk'⟩ := v1.1 hb2
      have := (isKi_inj (K := kiOf l (closG l a)) (L := kiOf l (closG l b)) ⟨ha1.1, hk, by rw [w2 k hk]⟩ ⟨hb1.1, hk', by rw [v2 k' hk']⟩ e).1
      omega
  have hnd2 : out.Pairwise fun x y => x.dr ≠ y.dr := hp.symm.pairwise hnd fun h => Ne.symm h
  exact (hnd2.and hs).imp fun ⟨h1, h2⟩ => ltK_total (Ne.symm h1) h2
end Go.Abs


set_option maxRecDepth 100000
namespace Go.Abs
def linkedG (l : List Dr) (c : List Int) : Bool :=
  ((List.range c.length).all fun i => decide (0 ≤ c.getD i 0 ∧ c.getD i 0 < l.length ∧ (0 < i → (dat l (c.getD i 0)).c = c.getD (i - 1) 0))) && decide (1 < c.length ∧ (dat l (c.getD (c.length - 1) 0)).a = (dat l (c.getD 0 0)).d)
theorem linked_chn {l : List Dr} (hc : CovOk l) {x : Int} {k : Nat} (hv : vld l x k) : linkedG l (chn l x k) = true ↔ clo l x k := by
  unfold linkedG
  rw [Bool.and_eq_true, chn_len, decide_eq_true_eq, chn_getD (by omega), chn_getD (by omega), show k - (k + 1 - 1) = 0 by omega]
  constructor
  · rintro ⟨_, h1, h2⟩
    exact ⟨by omega, hv, h2.symm⟩
  · rintro ⟨h1, _, h2⟩
    refine ⟨?_, by omega, h2.symm⟩
    rw [List.all_eq_true]
    intro i hi
    have hi := List.mem_range.1 hi
    rw [decide_eq_true_eq, chn_getD (by omega)]
    have hr := hv.rng hc (j := k - i) (by omega)
    refine ⟨hr.1, hr.2, fun h0 => ?_⟩
    rw [chn_getD (by omega), show k - (i - 1) = (k - i) + 1 by omega]
    rfl
theorem chn_slice {l : List Dr} {x : Int} {k a b : Nat} (hab : a ≤ b) (hb : b ≤ k) : ((chn l x k).drop a).take (b + 1 - a) = chn l (anc l (k - b) x) (b - a) := by
  apply List.ext_getElem
  · rw [List.length_take, List.length_drop, chn_len, chn_len]; omega
  · intro i h1 h2
    rw [chn_len] at h2
    rw [List.getElem_take, List.getElem_drop, chn_at, chn_at, ← anc_add]
    congr 1; omega
theorem vld.sub {l : List Dr} (hc : CovOk l) {x : Int} {k a b : Nat} (hv : vld l x k) (hab : a ≤ b) (hb : b ≤ k) : vld l (anc l (k - b) x) (b - a) := hv.up hc (by omega)
theorem isK.part {l : List Dr} (hc : CovOk l) {x : Int} {k a b : Nat} (h : isK l x k) (hab : a < b) (hb : b ≤ k) (hs : b - a < k) : linkedG l (((chn l x k).drop a).take (b + 1 - a)) = false := by
  rw [chn_slice (by omega) hb]
  cases hl : linkedG l (chn l (anc l (k - b) x) (b - a)) with
  | false => rfl
  | true =>
    have := h.2 (k - b) (b - a) ((linked_chn hc (h.1.2.1.sub hc (by omega) hb)).1 hl) (by omega)
    omega
def eqKi (a b : Ki) : Bool := decide (a.dr = b.dr) && (decide (a.fi = b.fi) && decide (a.mo = b.mo))
def provesG (l : List Ki) (k : Ki) : Bool := l.any fun x => eqKi x k
theorem foldl_add (l : List Int) : ∀ a : Int, l.foldl (· + ·) a = a + sumI l := by
  unfold sumI
  induction l with
  | nil => intro a; simp
  | cons x l ih => intro a; simp only [List.foldl_cons]; rw [ih, ih (0 + x)]; omega
theorem sumI_snoc (l : List Int) (x : Int) : sumI (l ++ [x]) = sumI l + x := by unfold sumI; rw [List.foldl_append]; rfl
theorem sumI_cons (l : List Int) (x : Int) : sumI (x :: l) = x + sumI l := by
  show (x :: l).foldl (· + ·) 0 = _
  rw [List.foldl_cons, foldl_add]; omega
theorem sumI_bound {B : Int} : ∀ {l : List Int}, (∀ x ∈ l, 0 ≤ x ∧ x ≤ B) → 0 ≤ sumI l ∧ sumI l ≤ l.length * B
  | [], _ => by simp [sumI]
  | x :: l, h => by
    have h1 := h x List.mem_cons_self
    have h2 := sumI_bound fun y hy => h y (List.mem_cons_of_mem _ hy)
    rw [sumI_cons, List.length_cons]
    push_cast
    rw [Int.add_mul]
    omega
def SumOk (l : List Dr) : Prop := ∀ x ∈ l, 1 ≤ x.s ∧ x.s ≤ 1099511627776
theorem covS_bound {l : List Dr} (h : SumOk l) (i : Int) : 0 ≤ covS l i ∧ covS l i ≤ l.length * 1099511627776 := by
  unfold covS
  have h1 := sumI_bound (B := 1099511627776) (l := (l.filter fun x => decide (x.c = i)).map Dr.s) fun y hy => by
    obtain ⟨x, hx, rfl⟩ := List.mem_map.1 hy
    have := h x (List.mem_filter.1 hx).1
    omega
  refine ⟨h1.1, Int.le_trans h1.2 ?_⟩
  rw [List.length_map]
  have := List.length_filter_le (fun x : Dr => decide (x.c = i)) l
  exact Int.mul_le_mul_of_nonneg_right (by omega) (by omega)
theorem own_facts {l : List Dr} (h : SumOk l) {i : Int} (h0 : 0 ≤ i) (hi : i < l.length) : 0 ≤ ownAt l i ∧ ownAt l i ≤ (dat l i).s ∧ (dat l i).s ≤ ownAt l i + covS l i ∧ (ownAt l i > 0 → ownAt l i + covS l i = (dat l i).s) := by
  have hb := (covS_bound h i).1
  have hs : dat l i ∈ l := by
    unfold dat
    rw [List.getD_eq_getElem?_getD, List.getElem?_eq_getElem (by omega), Option.getD_some]
    exact List.getElem_mem _
  have := h _ hs
  unfold ownAt
  omega
def Dr.noC (x : Dr) : Dr := ⟨x.d, x.a, x.s, x.y, x.u, -1⟩
def Dr.toS (x : Dr) (t : Int) : Dr := ⟨x.d, x.a, t, x.y, x.u, x.c⟩
def cutD (l : List Dr) (x : Int) : List Dr := l.set x.toNat (dat l x).noC
theorem dat_set {l : List Dr} {x y : Int} {v : Dr} (h0 : 0 ≤ x) (hx : x < l.length) (hy : 0 ≤ y) : dat (l.set x.toNat v) y = if y = x then v else dat l y := by
  unfold dat
  rw [List.getD_eq_getElem?_getD, List.getElem?_set, List.getD_eq_getElem?_getD]
  by_cases h : y = x
  · subst h; rw [if_pos rfl, if_pos rfl, if_pos (by omega)]; rfl
  · rw [if_neg (by omega), if_neg h]
theorem cut_cov {l : List Dr} (hc : CovOk l) {x : Int} (h0 : 0 ≤ x) (hx : x < l.length) : CovOk (cutD l x) := by
  intro i hi hil
  unfold cutD at hil ⊢
  rw [List.length_set] at hil
  rw [dat_set h0 hx hi]
  split
  · exact .inl rfl
  · exact hc i hi hil
theorem cut_anc {l : List Dr} {x : Int} (h0 : 0 ≤ x) (hx : x < l.length) {y : Int} : ∀ {k : Nat}, vld (cutD l x) y k → (∀ j, j ≤ k → anc (cutD l x) j y = anc l j y) ∧ vld l y k ∧ ∀ j, j < k → anc l j y ≠ x
  | 0, h => by
    refine ⟨fun j hj => ?_, ⟨?_, fun j hj => ?_⟩, fun j hj => by omega⟩
    · obtain rfl : j = 0 := by omega
      rfl
    · have := h.1; unfold cutD at this; rwa [List.length_set] at this
    · obtain rfl : j = 0 := by omega
      exact h.2 0 (by omega)
  | k + 1, h => by
    obtain ⟨i1, i2, i3⟩ := cut_anc h0 hx (h.le (Nat.le_succ k))
    have hk0 := h.2 k (by omega)
    have hk1 := h.2 (k + 1) (by omega)
    have e : anc (cutD l x) (k + 1) y = (dat (cutD l x) (anc (cutD l x) k y)).c := rfl
    rw [e] at hk1
    have hd : dat (cutD l x) (anc (cutD l x) k y) = if anc (cutD l x) k y = x then (dat l x).noC else dat l (anc (cutD l x) k y) := dat_set h0 hx hk0
    rw [hd] at hk1
    have hne : anc (cutD l x) k y ≠ x := by
      intro he
      rw [if_pos he] at hk1
      have : (-1 : Int) ≥ 0 := hk1
      omega
    have hdk : dat (cutD l x) (anc (cutD l x) k y) = dat l (anc l k y) := by
      rw [hd, if_neg hne, i1 k (Nat.le_refl k)]
    have ek : anc (cutD l x) (k + 1) y = anc l (k + 1) y := by
      show (dat (cutD l x) (anc (cutD l x) k y)).c = _
      rw [hdk]; rfl
    refine ⟨fun j hj => ?_, ⟨i2.1, fun j hj => ?_⟩, fun j hj => ?_⟩
    · by_cases ej : j = k + 1
      · rw [ej]; exact ek
      · exact i1 j (by omega)
    · by_cases ej : j = k + 1
      · rw [ej, ← ek]; exact h.2 (k + 1) (Nat.le_refl _)
      · exact i2.2 j (by omega)
    · by_cases ej : j = k
      · rw [ej, ← i1 k (Nat.le_refl k)]; exact hne
      · exact i3 j (by omega)
theorem cut_chn {l : List Dr} {x y : Int} (h0 : 0 ≤ x) (hx : x < l.length) {k : Nat} (h : vld (cutD l x) y k) : chn (cutD l x) y k = chn l y k := by
  unfold chn
  congr 1
  refine List.map_congr_left fun j hj => ?_
  have := List.mem_range.1 hj
  exact (cut_anc h0 hx h).1 j (by omega)
theorem cut_dat {l : List Dr} {x y : Int} (h0 : 0 ≤ x) (hx : x < l.length) (hy : 0 ≤ y) : (dat (cutD l x) y).d = (dat l y).d ∧ (dat (cutD l x) y).a = (dat l y).a := by
  unfold cutD
  rw [dat_set h0 hx hy]
  split
  · rename_i h; subst h; exact ⟨rfl, rfl⟩
  · exact ⟨rfl, rfl⟩
theorem cut_kite {l : List Dr} (hc : CovOk l) {x : Int} (h0 : 0 ≤ x) (hx : x < l.length) {K : Ki} (hK : K ∈ kitesR (cutD l x)) : (∃ K' ∈ kitesR l, K'.dr = K.dr) ∧ K.dr.getD (K.dr.length - 1) 0 ≠ x := by
  have hc' := cut_cov hc h0 hx
  obtain ⟨y, k, hk⟩ := ((kitesR_spec hc').2 K).1 hK
  have hv := hk.2.1.1.2.1
  obtain ⟨a1, a2, a3⟩ := cut_anc h0 hx hv
  have hlen := hk.len
  have hk1 := hk.2.1.1.1
  refine ⟨⟨kiOf l (chn l y k), ((kitesR_spec hc).2 _).2 ⟨y, k, hk.1, ⟨⟨hk1, a2, ?_⟩, fun j i hji hle => ?_⟩, rfl⟩, ?_⟩, ?_⟩
  · have h1 := hk.2.1.1.2.2
    rw [(cut_dat h0 hx (hv.2 k (Nat.le_refl k))).1, (cut_dat h0 hx hk.1).2, a1 k (Nat.le_refl k)] at h1
    exact h1
  · refine hk.2.1.2 j i ⟨hji.1, (hv.up hc' hle).le (Nat.le_refl i), ?_⟩ hle
    have h1 := hji.2.2
    rw [← anc_add] at h1 ⊢
    have g1 := hv.2 (j + i) hle
    have g2 := hv.2 j (by omega)
    rw [(cut_dat h0 hx g1).1, (cut_dat h0 hx g2).2, a1 (j + i) hle, a1 j (by omega)]
    exact h1
  · show chn l y k = K.dr
    rw [hk.2.2, ← cut_chn h0 hx hv]; rfl
  · rw [hlen.1, show k + 1 - 1 = k by omega, hlen.2.2]
    exact fun e => a3 0 (by omega) (by rw [← e]; rfl)
theorem grown_own {l : List Dr} {x : Int} (h0 : 0 ≤ x) (hx : x < l.length) {t : Int} (ht : (dat l x).s ≤ t) {i : Int} (hi : 0 ≤ i) (hix : i ≠ x) : ownAt (l.set x.toNat ((dat l x).toS t)) i ≤ ownAt l i := by
  unfold ownAt
  rw [dat_set h0 hx hi, if_neg hix]
  have key : ∀ (l : List Dr) (n : Nat) (d : Dr), n < l.length → l.getD n dr0 = d → d.s ≤ t → covS l i ≤ covS (l.set n (d.toS t)) i := by
    intro l
    induction l with
    | nil => intro n d h _ _; simp at h
    | cons z l ih =>
      intro n d h h1 h2
      cases n with
      | zero =>
        have h1 : z = d := h1
        subst h1
        have ec : (z.toS t).c = z.c := rfl
        have es : (z.toS t).s = t := rfl
        simp only [List.set_cons_zero]
        unfold covS
        simp only [List.filter_cons, ec]
        by_cases e : z.c = i
        · simp only [e, decide_true, if_true, List.map_cons, sumI_cons, es]; omega
        · simp [e]
      | succ n =>
        have := ih n d (by simpa using h) (by simpa using h1) h2
        simp only [List.set_cons_succ]
        unfold covS at this ⊢
        simp only [List.filter_cons]
        by_cases e : z.c = i
        · simp only [e, decide_true, if_true, List.map_cons, sumI_cons]; omega
        · simp only [e, decide_false]; exact this
  have := key l x.toNat (dat l x) (by omega) rfl ht
  omega
end Go.Abs


namespace Go.Abs
def endQX (rs : List RX) (S : V → Prop) : AE → St → Prop
  | .normal => fun σ => retQ rs S σ
  | .ret => fun σ => retQ rs S σ
  | .exit _ => fun _ => False
theorem Spec.of_awpX {P : Program} {f : FuncId} {fn : Func} {c : Code} {ac : AC} {rs : List RX} {args : List V} {S : V → Prop} (hf : P.funcs[f]? = some fn) (hb : fn.body = some c) (hname : (fn.name == "runtime.NumGoroutine") = false)
    (hc : compile P fn.ntmps c = some ac) (hr : cRes P fn.results.toList = some rs) (hlen : args.length ≤ fn.ntmps) (h : Wk (awp P ac (fun e => Wk (endQX rs S e))) (St.init args)) : Spec P f args S := by
  refine ⟨⟨fn, hf, by simp [hb], hname⟩, fun w Z vs hG hz ha => ?_⟩
  refine calls_of_wp hf hb ?_
  have hvl : vs.size = args.length := by simpa using ha.1
  have hinit : Inv (base w) Z (fun _ => none) (St.init args) (vs ++ Array.replicate (fn.ntmps - vs.size) undef) w := by
    refine ⟨Kept.refl w, hG, fun τ b h => absurd rfl h, fun τ _ b h => absurd rfl h, fun τ ob h => by simp [St.init] at h, fun s => ?_⟩
    by_cases hs : s < args.length
    · have e1 : (St.init args).t s = args[s] := by simp [St.init, hs]
      have e2 : (vs ++ Array.replicate (fn.ntmps - vs.size) undef).getD s undef = vs[s]'(by omega) := by
        have h1 : s < vs.size := by omega
        rw [Array.getD_eq_getD_getElem?, Array.getElem?_append_left h1, Array.getElem?_eq_getElem h1]
        rfl
      rw [e1, e2]
      obtain ⟨hp, hv⟩ := ha.2 s args[s] (vs[s]'(by omega)) (List.getElem?_eq_getElem hs) (by simp)
      exact (hv.pure_any hp).mono (fun _ _ => rfl) (fun b hb => ⟨.inl ⟨hb, hz b hb⟩, hz b hb, fun τ h => absurd rfl h⟩) (τs := fun _ => True) (TabLike.of_eq (σ := St.init args) (σ' := St.init args) (κ := fun _ => none) (κ' := fun _ => none) (fun _ _ => ⟨rfl, rfl⟩) (Kept.refl w)) (fun _ _ => trivial)
    · have e1 : (St.init args).t s = .any := by simp [St.init, hs]
      rw [e1]; trivial
  refine wp_mono (awp_sound (w0 := base w) (Z0 := Z) (F := ⟨fn.ntmps, fun _ => false, #[]⟩) (D := []) c ac hc (avoids_none ac) (fun e => Wk (endQX rs S e)) _ w (Nx.wk ⟨rfl, ⟨by simp; omega, by simp⟩, _, _, hinit, h⟩)) fun e a' w' h' => ?_
  have fin : Nx (base w) Z [] ⟨fn.ntmps, fun _ => false, #[]⟩ (Wk fun σ => retQ rs S σ) a' w' → a'.defers = [] ∧ ∃ v, (results fn a'.tmps).run P w' = .ok v w' ∧ ∃ v_1 r, Ending.returned v = .returned v_1 ∧ S r ∧ (∀ τ, r.noRef τ = true) ∧ RRep (base w) Z r v_1 w' := by
    intro hwk
    obtain ⟨hD, hn, κ, σ, hi, hq⟩ := Nx.wk hwk
    refine ⟨hD, ?_⟩
    obtain ⟨xs, us, ⟨hnd, hS⟩, hl, hrep, hrun⟩ := res_rep hi fn.results.toList rs hr hq
    have hone := one_rep hl hrep
    refine ⟨_, ?_, _, _, rfl, hS, V.clean _, ret_rep hi hone hnd⟩
    have hres : results fn a'.tmps = (do let vs ← fn.results.mapM (resVal a'.tmps); pure (if h : vs.size = 1 then vs[0] else .tuple vs)) := rfl
    rw [hres, Array.mapM_eq_mapM_toList]
    simp only [Sem.run_bind, Sem.run_map, hrun]
    simp
  cases e with
  | normal => exact fin h'
  | ret => exact fin h'
  | exit i => obtain ⟨_, _, _, _, _, _, _, h⟩ := h'; exact h.elim
  | goto l => exact h'.elim
  | panic ch => exact h'.elim
  | outgrown => exact h'.elim
theorem Spec.of_cFuncX {P : Program} {f : FuncId} {n : Nat} {ac : AC} {rs : List RX} {args : List V} {S : V → Prop} (hc : cFunc P f = some ⟨n, ac, rs⟩) (hlen : args.length ≤ n) (h : Wk (awp P ac (fun e => Wk (endQX rs S e))) (St.init args)) : Spec P f args S := by
  unfold cFunc at hc
  simp only [Option.bind_eq_bind, Option.bind_eq_some_iff] at hc
  obtain ⟨fn, hf, c, hb, ac', hcc, rs', hr, hc⟩ := hc
  split at hc
  · simp at hc
  · rename_i hn
    simp only [Option.pure_def, Option.some.injEq, AF.mk.injEq] at hc
    obtain ⟨rfl, rfl, rfl⟩ := hc
    exact Spec.of_awpX hf hb (by simpa using hn) hcc hr hlen h
def endKX (rs : List RX) (S : V → Prop) : AE → KK
  | .exit _, _, _ => False
  | _, ts, os => endL (resL ts os rs) os S
theorem endKX_ret (rs : List RX) (S : V → Prop) (ts : TS) (os : OS) : endKX rs S .ret ts os = endL (resL ts os rs) os S := id rfl
theorem endKX_normal (rs : List RX) (S : V → Prop) (ts : TS) (os : OS) : endKX rs S .normal ts os = endL (resL ts os rs) os S := id rfl
theorem endX_on {rs : List RX} {S : V → Prop} {e : AE} {ts : TS} {os : OS} (h : endKX rs S e ts os) : endQX rs S e (mkS ts os) := by
  have key : endL (resL ts os rs) os S → retQ rs S (mkS ts os) := by
    intro h
    cases hr : resL ts os rs with
    | none => rw [hr] at h; exact h.elim
    | some pv =>
      obtain ⟨p, vs⟩ := pv
      rw [hr] at h
      exact resL_on hr h.1 h.2
  cases e with
  | normal => exact key h
  | exit i => exact h.elim
  | ret => exact key h
theorem Spec.of_awlX {P : Program} {f : FuncId} {n : Nat} {c : AQ} {rs : List RX} {args : List V} {X : V} (hc : cFunc P f = some ⟨n, c.erase, rs⟩) (hok : c.ok = true) (hlen : args.length ≤ n) (h : ∀ S : V → Prop, S X → awl P c (endKX rs S) (initT 0 args) []) : Spec P f args (fun r => r = X) := by
  have h := h (fun r => r = X) rfl
  refine Spec.of_cFuncX (ac := c.erase) (rs := rs) (n := n) hc hlen (awq_sound c hok (Q := endQX rs _) ?_)
  have e : St.init args = mkS (initT 0 args) [] := init_mkS args []
  rw [e]
  exact awq_mono c (fun e => onS_elim fun _ _ h => endX_on h) (awl_on c h)
end Go.Abs


set_option maxRecDepth 100000
set_option maxHeartbeats 4000000
namespace Go.Abs
open Go.Proofs Go.RowKit
def encD (x : Dr) : List C := [.int .i64 x.d, .int .i64 x.a, .int .i64 x.s, .int .i64 x.y, .int .i64 x.u, .int .i64 x.c]
def drs (l : List Dr) : List (List C) := l.map encD
theorem drs_len (l : List Dr) : (drs l).length = l.length := by simp [drs]
theorem drs_at {l : List Dr} {i : Nat} (h : i < l.length) : (drs l).getD i [] = encD l[i] := by simp [drs, h]
theorem normRow_encD (x : Dr) : C.normRow (encD x) = encD x := rfl
theorem normRows_drs (l : List Dr) : C.normRows (drs l) = drs l := normRows_eq normRow_encD l
theorem drs_dat {l : List Dr} {i : Int} (h0 : 0 ≤ i) (h : i < l.length) : (drs l).getD i.toNat [] = [.int .i64 (dat l i).d, .int .i64 (dat l i).a, .int .i64 (dat l i).s, .int .i64 (dat l i).y, .int .i64 (dat l i).u, .int .i64 (dat l i).c] := by
  have h1 : i.toNat < l.length := by omega
  rw [drs_at h1]
  have : l[i.toNat] = dat l i := by unfold dat; rw [List.getD_eq_getElem?_getD, List.getElem?_eq_getElem h1]; rfl
  rw [this]; rfl
theorem drs_nat {l : List Dr} {i : Nat} (h : i < l.length) : (drs l).getD i [] = [.int .i64 (dat l i).d, .int .i64 (dat l i).a, .int .i64 (dat l i).s, .int .i64 (dat l i).y, .int .i64 (dat l i).u, .int .i64 (dat l i).c] := drs_dat (i := (i : Int)) (by omega) (by omega)
theorem dat_nat {l : List Dr} {i : Nat} (h : i < l.length) : dat l (i : Int) = l[i] := by unfold dat; rw [Int.toNat_natCast, List.getD_eq_getElem?_getD, List.getElem?_eq_getElem h]; rfl
def firmB (n : Int) : Bool := decide (0 ≤ n ∧ n < 200)
def dayB (n : Int) : Bool := decide (0 ≤ n ∧ n ≤ 100000)
theorem d27 (n : Int) : Spec Try.prog 27 [.int .i64 n] (fun r => r = .bool (firmB n)) := by
  refine Spec.of_awlS hf27 okf27 (by simp) fun S hS => ?_
  unfold firmB at hS
  by_cases h1 : n ≥ 0 <;> by_cases h2 : n < 200 <;> simp only [h1, h2, Qs, if_true, List.nodup_nil, Nat.reduceBEq, uu f27.eq_1, vv f27r1.eq_1, uu f27b2.eq_1, vv f27r3.eq_1, uu f27b4.eq_1] <;> (have h1' : 0 ≤ n ↔ n ≥ 0 := Iff.rfl) <;> simpa [h1, h2, h1'] using hS
theorem d28 (n : Int) : Spec Try.prog 28 [.int .i64 n] (fun r => r = .bool (dayB n)) := by
  refine Spec.of_awlS hf28 okf28 (by simp) fun S hS => ?_
  unfold dayB at hS
  by_cases h1 : n ≥ 0 <;> by_cases h2 : n ≤ 100000 <;> simp only [h1, h2, Qs, if_true, List.nodup_nil, Nat.reduceBEq, uu f28.eq_1, vv f28r1.eq_1, uu f28b2.eq_1, vv f28r3.eq_1, uu f28b4.eq_1] <;> (have h1' : 0 ≤ n ↔ n ≥ 0 := Iff.rfl) <;> simpa [h1, h2, h1'] using hS
def badA (x : Dr) : Prop := firmB x.d = false ∨ firmB x.a = false ∨ x.d = x.a ∨ x.s < 1 ∨ x.s > 1099511627776
def badY (x : Dr) : Prop := x.y < 0 ∨ x.u > 100000 ∨ x.y ≥ x.u
def badC (l : List Dr) (i : Int) (x : Dr) : Prop := x.c ≠ -1 ∧ (x.c < 0 ∨ x.c ≥ i ∨ (dat l x.c).a ≠ x.d ∨ (dat l x.c).u < x.y)
instance (x : Dr) : Decidable (badA x) := by unfold badA; infer_instance
instance (x : Dr) : Decidable (badY x) := by unfold badY; infer_instance
instance (l : List Dr) (i : Int) (x : Dr) : Decidable (badC l i x) := by unfold badC; infer_instance
def chk1 (l : List Dr) (i : Int) (x : Dr) : Int := if badA x then 1 else if badY x then 13 else if badC l i x then 2 else 0
def chkL (l : List Dr) : Nat → List Dr → Int
  | _, [] => 0
  | i, x :: r => if chk1 l i x ≠ 0 then chk1 l i x else chkL l (i + 1) r
def chkG (l : List Dr) : Int := if (l.length : Int) > 100 then 6 else chkL l 0 l
theorem chkL_drop {l : List Dr} {i : Nat} (h : i < l.length) : chkL l i (l.drop i) = if chk1 l i (dat l i) ≠ 0 then chk1 l i (dat l i) else chkL l (i + 1) (l.drop (i + 1)) := by
  rw [List.drop_eq_getElem_cons h, chkL, dat_nat h]
theorem chk_A {l : List Dr} {i : Nat} {X : Int} (h : chkL l i (l.drop i) = X) (hl : i < l.length) (hb : badA (dat l i)) : X = 1 := by
  rw [← h, chkL_drop hl]; unfold chk1; rw [if_pos hb]; rfl
theorem chk_Y {l : List Dr} {i : Nat} {X : Int} (h : chkL l i (l.drop i) = X) (hl : i < l.length) (ha : ¬ badA (dat l i)) (hb : badY (dat l i)) : X = 13 := by
  rw [← h, chkL_drop hl]; unfold chk1; rw [if_neg ha, if_pos hb]; rfl
theorem chk_C {l : List Dr} {i : Nat} {X : Int} (h : chkL l i (l.drop i) = X) (hl : i < l.length) (ha : ¬ badA (dat l i)) (hy : ¬ badY (dat l i)) (hb : badC l i (dat l i)) : X = 2 := by
  rw [← h, chkL_drop hl]; unfold chk1; rw [if_neg ha, if_neg hy, if_pos hb]; rfl
theorem chk_N {l : List Dr} {i : Nat} {X : Int} (h : chkL l i (l.drop i) = X) (hl : i < l.length) (ha : ¬ badA (dat l i)) (hy : ¬ badY (dat l i)) (hb : ¬ badC l i (dat l i)) : chkL l (i + 1) (l.drop (i + 1)) = X := by
  rw [← h, chkL_drop hl]; unfold chk1; rw [if_neg ha, if_neg hy, if_neg hb, if_neg (by simp)]
theorem d10 (l : List Dr) : Spec Try.prog 10 [lst 6 (drs l)] (fun r => r = .int .i64 (chkG l)) := by
  refine Spec.of_awlS hf10 okf10 (by simp) fun S hS => ?_
  by_cases b1 : (l.length : Int) > 100
  · unfold chkG at hS
    rw [if_pos b1] at hS
    simp only [b1, drs_len, normRows_drs, Qs, if_true, List.nodup_nil, Nat.reduceBEq, uu f10.eq_1, vv f10r38.eq_1, uu f10b39.eq_1, uu f10b40.eq_1, vv f10r41.eq_1, uu f10b42.eq_1, uu f10b43.eq_1, vv f10r44.eq_1, uu f10b45.eq_1]
    exact hS
  unfold chkG at hS
  rw [if_neg b1] at hS
  simp only [b1, drs_len, normRows_drs, Qs, if_true, Nat.reduceBEq, uu f10.eq_1, uu f10b34.eq_1, vv f10r35.eq_1, uu f10b36.eq_1, uu f10b37.eq_1, uu f10b40.eq_1, vv f10r41.eq_1, uu f10b42.eq_1, uu f10b43.eq_1, vv f10r44.eq_1, uu f10b45.eq_1]
  rw [uu f10l33.eq_1]
  refine awl_loop (fun i : Nat => [(0, lst 6 (drs l)), (8, lst 6 (drs l)), (9, .int .i64 l.length), (10, .int .i64 i)]) (fun _ => []) (fun i => i ≤ l.length ∧ chkL l i (l.drop i) = chkL l 0 l) (fun i => l.length - i) 0 rfl rfl ⟨Nat.zero_le _, rfl⟩ ?_
  rintro i ⟨hi, hd⟩
  by_cases hlt : i < l.length
  · have c1 : (i : Int) < l.length := by omega
    have c4 : IntKind.i64.wrap ((i : Int) + 1) = (i : Int) + 1 := wrap_in (by omega) (by omega)
    obtain ⟨x, hx⟩ : ∃ x, dat l i = x := ⟨_, rfl⟩
    have hat := drs_nat hlt
    rw [hx] at hat
    have g1 := d27 x.d
    have g2 := d27 x.a
    have kA := chk_A hd hlt
    have kY := chk_Y hd hlt
    have kC := chk_C hd hlt
    have kN := chk_N hd hlt
    rw [hx] at kA kY kC kN
    have hcat : True := trivial
    simp only [c1, c4, drs_len, hat, normRows_drs, Qs, if_true, if_false, List.append_nil, Nat.reduceAdd, Nat.reduceLeDiff, Nat.reduceBEq, vv f10r3.eq_1, vv f10r21.eq_1, uu f10b22.eq_1, uu f10b23.eq_1, uu f10b24.eq_1, vv f10r25.eq_1, uu f10b26.eq_1, uu f10b27.eq_1, uu f10b28.eq_1, uu f10b29.eq_1, uu f10b30.eq_1, vv f10r31.eq_1, uu f10b32.eq_1]
    refine call_s g1 ?_
    cases h1 : firmB x.d with
    | false =>
      simp only [c4, h1, hat, drs_len, normRows_drs, Qs, List.nodup_nil, Nat.reduceBEq, vv f10r13.eq_1, uu f10b14.eq_1, uu f10b20.eq_1]
      exact fin hS (by rw [kA (.inl h1)])
    | true =>
    simp only [c4, h1, hat, drs_len, normRows_drs, Qs, if_false, Nat.reduceAdd, Nat.reduceLeDiff, Nat.reduceBEq]
    refine call_s g2 ?_
    cases h2 : firmB x.a with
    | false =>
      simp only [c4, h2, hat, drs_len, normRows_drs, Qs, if_false, List.nodup_nil, Nat.reduceBEq, vv f10r13.eq_1, uu f10b14.eq_1, uu f10b20.eq_1]
      exact fin hS (by rw [kA (.inr (.inl h2))])
    | true =>
    by_cases h3 : x.d = x.a
    · have h3b : (x.d == x.a) = true := by simpa using h3
      simp only [c4, h2, hat, drs_len, normRows_drs, h3b, Qs, if_true, if_false, List.nodup_nil, Nat.reduceAdd, Nat.reduceLeDiff, Nat.reduceBEq, vv f10r13.eq_1, uu f10b14.eq_1, uu f10b20.eq_1]
      exact fin hS (by rw [kA (.inr (.inr (.inl h3)))])
    have h3b : (x.d == x.a) = false := by simpa using h3
    by_cases h4 : x.s < 1
    · simp only [c4, h2, hat, drs_len, normRows_drs, h3b, h4, Qs, if_true, if_false, List.nodup_nil, Nat.reduceAdd, Nat.reduceLeDiff, Nat.reduceBEq, vv f10r13.eq_1, uu f10b14.eq_1, uu f10b20.eq_1]
      exact fin hS (by rw [kA (.inr (.inr (.inr (.inl h4))))])
    by_cases h5 : x.s > 1099511627776
    · simp only [c4, h2, hat, drs_len, normRows_drs, h3b, h4, h5, Qs, if_true, if_false, List.nodup_nil, Nat.reduceAdd, Nat.reduceLeDiff, Nat.reduceBEq, vv f10r13.eq_1, uu f10b14.eq_1, uu f10b20.eq_1]
      exact fin hS (by rw [kA (.inr (.inr (.inr (.inr h5))))])
    have nA : ¬ badA x := by unfold badA; rw [h1, h2]; simp; omega
    simp only [c4, h2, hat, drs_len, normRows_drs, h3b, h4, h5, Qs, if_true, if_false, Nat.reduceAdd, Nat.reduceLeDiff, Nat.reduceBEq, vv f10r18.eq_1, uu f10b19.eq_1, uu f10b20.eq_1]
    refine call_s (d28 x.y) ?_
    cases h6 : dayB x.y with
    | false =>
      simp only [c4, hat, drs_len, normRows_drs, h6, Qs, List.nodup_nil, Nat.reduceBEq, vv f10r15.eq_1, uu f10b16.eq_1, uu f10b17.eq_1]
      exact fin hS (by rw [kY nA (by unfold dayB at h6; simp at h6; unfold badY; omega)])
    | true =>
    simp only [c4, hat, drs_len, normRows_drs, h6, Qs, if_false, Nat.reduceAdd, Nat.reduceLeDiff, Nat.reduceBEq]
    refine call_s (d28 x.u) ?_
    cases h7 : dayB x.u with
    | false =>
      simp only [c4, hat, drs_len, normRows_drs, h7, Qs, if_false, List.nodup_nil, Nat.reduceBEq, vv f10r15.eq_1, uu f10b16.eq_1, uu f10b17.eq_1]
      exact fin hS (by rw [kY nA (by unfold dayB at h6 h7; simp at h6 h7; unfold badY; omega)])
    | true =>
    by_cases h8 : x.y ≥ x.u
    · simp only [c4, hat, drs_len, normRows_drs, h7, h8, Qs, if_true, if_false, List.nodup_nil, Nat.reduceAdd, Nat.reduceLeDiff, Nat.reduceBEq, vv f10r15.eq_1, uu f10b16.eq_1, uu f10b17.eq_1]
      exact fin hS (by rw [kY nA (.inr (.inr h8))])
    have nY : ¬ badY x := by unfold dayB at h6 h7; simp at h6 h7; unfold badY; omega
    by_cases h9 : x.c = -1
    · have h9b : (x.c != -1) = false := by simp [h9]
      have h9c : (x.c == -1) = true := by simp [h9]
      simp only [c4, hat, drs_len, normRows_drs, h7, h8, h9b, h9c, Qs, if_true, if_false, Int.reduceNeg, Nat.reduceAdd, Nat.reduceLeDiff, Nat.reduceBEq, uu f10b9.eq_1, vv f10r10.eq_1, uu f10b11.eq_1, uu f10b12.eq_1, uu f10b17.eq_1]
      exact Next.intro (i + 1) rfl rfl ⟨by omega, kN nA nY (fun h => h.1 h9)⟩ (by omega)
    have h9b : (x.c != -1) = true := by simp [h9]
    have h9c : (x.c == -1) = false := by simp [h9]
    by_cases h10 : x.c < 0
    · simp only [c4, hat, drs_len, normRows_drs, h7, h8, h9b, h9c, h10, Qs, if_true, if_false, Int.reduceNeg, List.nodup_nil, Nat.reduceAdd, Nat.reduceLeDiff, Nat.reduceBEq, vv f10r4.eq_1, uu f10b5.eq_1, uu f10b6.eq_1, vv f10r7.eq_1, uu f10b8.eq_1, uu f10b9.eq_1, vv f10r10.eq_1, uu f10b11.eq_1, uu f10b12.eq_1, uu f10b17.eq_1]
      exact fin hS (by rw [kC nA nY ⟨h9, .inl h10⟩])
    by_cases h11 : x.c ≥ (i : Int)
    · simp only [c4, hat, drs_len, normRows_drs, h7, h8, h9b, h9c, h10, h11, Qs, if_true, if_false, Int.reduceNeg, List.nodup_nil, Nat.reduceAdd, Nat.reduceLeDiff, Nat.reduceBEq, vv f10r4.eq_1, uu f10b5.eq_1, uu f10b6.eq_1, vv f10r7.eq_1, uu f10b8.eq_1, uu f10b9.eq_1, vv f10r10.eq_1, uu f10b11.eq_1, uu f10b12.eq_1, uu f10b17.eq_1]
      exact fin hS (by rw [kC nA nY ⟨h9, .inr (.inl h11)⟩])
    have hcat := drs_dat (l := l) (i := x.c) (by omega) (by omega)
    have hc0 : 0 ≤ x.c := by omega
    have hc1 : x.c < (l.length : Int) := by omega
    by_cases h12 : (dat l x.c).a = x.d
    · skip
      have h12b : ((dat l x.c).a != x.d) = false := by simp [h12]
      by_cases h13 : (dat l x.c).u < x.y
      · simp only [c4, hat, drs_len, normRows_drs, h7, h8, h9b, h9c, h10, h11, hcat, hc0, hc1, h12b, h13, Qs, if_true, if_false, Int.reduceNeg, List.nodup_nil, Nat.reduceAdd, Nat.reduceLeDiff, Nat.reduceBEq, vv f10r4.eq_1, uu f10b5.eq_1, uu f10b6.eq_1, vv f10r7.eq_1, uu f10b8.eq_1, uu f10b9.eq_1, vv f10r10.eq_1, uu f10b11.eq_1, uu f10b12.eq_1, uu f10b17.eq_1]
        exact fin hS (by rw [kC nA nY ⟨h9, .inr (.inr (.inr h13))⟩])
      simp only [c4, hat, drs_len, normRows_drs, h7, h8, h9b, h9c, h10, h11, hcat, hc0, hc1, h12b, h13, Qs, if_true, if_false, Int.reduceNeg, Nat.reduceAdd, Nat.reduceLeDiff, Nat.reduceBEq, uu f10b6.eq_1, vv f10r7.eq_1, uu f10b8.eq_1, uu f10b9.eq_1, vv f10r10.eq_1, uu f10b11.eq_1, uu f10b12.eq_1, uu f10b17.eq_1]
      exact Next.intro (i + 1) rfl rfl ⟨by omega, kN nA nY (fun h => by rcases h.2 with h | h | h | h; exact h10 h; exact h11 h; exact h h12; exact h13 h)⟩ (by omega)
    · have h12b : ((dat l x.c).a != x.d) = true := by simp [h12]
      simp only [c4, hat, drs_len, normRows_drs, h7, h8, h9b, h9c, h10, h11, hcat, hc0, hc1, h12b, Qs, if_true, if_false, Int.reduceNeg, List.nodup_nil, Nat.reduceAdd, Nat.reduceLeDiff, Nat.reduceBEq, vv f10r4.eq_1, uu f10b5.eq_1, uu f10b6.eq_1, vv f10r7.eq_1, uu f10b8.eq_1, uu f10b9.eq_1, vv f10r10.eq_1, uu f10b11.eq_1, uu f10b12.eq_1, uu f10b17.eq_1]
      exact fin hS (by rw [kC nA nY ⟨h9, .inr (.inr (.inl h12))⟩])
  · obtain rfl : i = l.length := by omega
    have c1 : ¬ (l.length : Int) < l.length := by omega
    rw [List.drop_length, chkL] at hd
    simp only [c1, drs_len, Qs, if_true, List.nodup_nil, Nat.reduceBEq, vv f10r1.eq_1, uu f10b2.eq_1, uu f10b29.eq_1, uu f10b30.eq_1, vv f10r31.eq_1, uu f10b32.eq_1]
    exact fin hS (by rw [← hd])
end Go.Abs


set_option maxRecDepth 100000
namespace Go.Proofs
open Go.Shelf
def Try.laysSort_ren : Go.Shelf.Ren :=
  {
    f := fun x =>
      match x with
      | 189 => 66
      | 125 => 45
      | 257 => 73
      | 128 => 63
      | 129 => 64
      | 294 => 75
      | 295 => 76
      | 296 => 77
      | 297 => 78
      | 298 => 79
      | 299 => 80
      | 216 => 81
      | 300 => 82
      | 301 => 83
      | 328 => 84
      | 329 => 69
      | 330 => 70
      | 331 => 85
      | 332 => 86
      | 215 => 65
      | 343 => 87
      | n => n,
    t := fun x =>
      match x with
      | 28 => 23
      | 3 => 3
      | 46 => 64
      | 0 => 0
      | 51 => 81
      | 53 => 83
      | 4 => 4
      | 183 => 74
      | 182 => 73
      | 131 => 78
      | 5 => 5
      | 9 => 9
      | 218 => 85
      | 222 => 89
      | 228 => 92
      | 229 => 93
      | n => n,
    g := fun n => n }
theorem Try.laysSort : Lays.n189 Try.prog Try.laysSort_ren :=
  { mixed := by kernel_rfl, f125 := Eq.trans Try.func45 (congrArg some (Eq.refl (Body.n125 Try.laysSort_ren))),
    f128 := Eq.trans Try.func63 (congrArg some (Eq.refl (Body.n128 Try.laysSort_ren))),
    f129 := Eq.trans Try.func64 (congrArg some (Eq.refl (Body.n129 Try.laysSort_ren))),
    f189 := Eq.trans Try.func66 (congrArg some (Eq.refl (Body.n189 Try.laysSort_ren))),
    f215 := Eq.trans Try.func65 (congrArg some (Eq.refl (Body.n215 Try.laysSort_ren))),
    f216 := Eq.trans Try.func81 (congrArg some (Eq.refl (Body.n216 Try.laysSort_ren))),
    f257 := Eq.trans Try.func73 (congrArg some (Eq.refl (Body.n257 Try.laysSort_ren))),
    f294 := Eq.trans Try.func75 (congrArg some (Eq.refl (Body.n294 Try.laysSort_ren))),
    f295 := Eq.trans Try.func76 (congrArg some (Eq.refl (Body.n295 Try.laysSort_ren))),
    f296 := Eq.trans Try.func77 (congrArg some (Eq.refl (Body.n296 Try.laysSort_ren))),
    f297 := Eq.trans Try.func78 (congrArg some (Eq.refl (Body.n297 Try.laysSort_ren))),
    f298 := Eq.trans Try.func79 (congrArg some (Eq.refl (Body.n298 Try.laysSort_ren))),
    f299 := Eq.trans Try.func80 (congrArg some (Eq.refl (Body.n299 Try.laysSort_ren))),
    f300 := Eq.trans Try.func82 (congrArg some (Eq.refl (Body.n300 Try.laysSort_ren))),
    f301 := Eq.trans Try.func83 (congrArg some (Eq.refl (Body.n301 Try.laysSort_ren))),
    f328 := Eq.trans Try.func84 (congrArg some (Eq.refl (Body.n328 Try.laysSort_ren))),
    f329 := Eq.trans Try.func69 (congrArg some (Eq.refl (Body.n329 Try.laysSort_ren))),
    f330 := Eq.trans Try.func70 (congrArg some (Eq.refl (Body.n330 Try.laysSort_ren))),
    f331 := Eq.trans Try.func85 (congrArg some (Eq.refl (Body.n331 Try.laysSort_ren))),
    f332 := Eq.trans Try.func86 (congrArg some (Eq.refl (Body.n332 Try.laysSort_ren))),
    f343 := Eq.trans Try.func87 (congrArg some (Eq.refl (Body.n343 Try.laysSort_ren))), t0 := Try.underlying0,
    a0 := Try.isAgg0, z0 := Try.sizeOf0, v0 := Try.zeroValue0, t3 := Try.underlying3, a3 := Try.isAgg3, z3 := Try.sizeOf3,
    v3 := Try.zeroValue3, t4 := Try.underlying4, a4 := Try.isAgg4, z4 := Try.sizeOf4, v4 := Try.zeroValue4,
    t5 := Try.underlying5, a5 := Try.isAgg5, z5 := Try.sizeOf5, v5 := Try.zeroValue5, t9 := Try.underlying9,
    a9 := Try.isAgg9, z9 := Try.sizeOf9, v9 := Try.zeroValue9, t28 := Try.underlying23, a28 := Try.isAgg23,
    z28 := Try.sizeOf23, v28 := Try.zeroValue23, t46 := Try.underlying64, a46 := Try.isAgg64, z46 := Try.sizeOf64,
    v46 := Try.zeroValue64, t51 := Try.underlying81, a51 := Try.isAgg81, z51 := Try.sizeOf81, v51 := Try.zeroValue81,
    t53 := Try.underlying83, a53 := Try.isAgg83, z53 := Try.sizeOf83, v53 := Try.zeroValue83, t131 := Try.underlying78,
    a131 := Try.isAgg78, z131 := Try.sizeOf78, v131 := Try.zeroValue78, t182 := Try.underlying73, a182 := Try.isAgg73,
    z182 := Try.sizeOf73, v182 := Try.zeroValue73, t183 := Try.underlying74, a183 := Try.isAgg74, z183 := Try.sizeOf74,
    v183 := Try.zeroValue74, t218 := Try.underlying85, a218 := Try.isAgg85, z218 := Try.sizeOf85, v218 := Try.zeroValue85,
    t222 := Try.underlying89, a222 := Try.isAgg89, z222 := Try.sizeOf89, v222 := Try.zeroValue89,
    t228 := Try.underlying92, a228 := Try.isAgg92, z228 := Try.sizeOf92, v228 := Try.zeroValue92,
    t229 := Try.underlying93, a229 := Try.isAgg93, z229 := Try.sizeOf93, v229 := Try.zeroValue93 }
def Try.laysCompact_ren : Go.Shelf.Ren :=
  {
    f := fun x =>
      match x with
      | 20 => 67
      | n => n,
    t := fun x =>
      match x with
      | 22 => 23
      | 3 => 3
      | 4 => 4
      | 0 => 0
      | n => n,
    g := fun n => n }
theorem Try.laysCompact : Lays2.n20 Try.prog Try.laysCompact_ren :=
  { mixed := by kernel_rfl, f20 := Eq.trans Try.func67 (congrArg some (Eq.refl (Body2.n20 Try.laysCompact_ren))),
    t0 := Try.underlying0, a0 := Try.isAgg0, z0 := Try.sizeOf0, v0 := Try.zeroValue0, t3 := Try.underlying3,
    a3 := Try.isAgg3, z3 := Try.sizeOf3, v3 := Try.zeroValue3, t4 := Try.underlying4, a4 := Try.isAgg4, z4 := Try.sizeOf4,
    v4 := Try.zeroValue4, t22 := Try.underlying23, a22 := Try.isAgg23, z22 := Try.sizeOf23, v22 := Try.zeroValue23,
    i3 := by kernel_rfl }
def Try.laysReverse_ren : Go.Shelf.Ren :=
  {
    f := fun x =>
      match x with
      | 112 => 43
      | n => n,
    t := fun x =>
      match x with
      | 28 => 23
      | 3 => 3
      | 4 => 4
      | 0 => 0
      | n => n,
    g := fun n => n }
theorem Try.laysReverse : Lays.n112 Try.prog Try.laysReverse_ren :=
  { mixed := by kernel_rfl, f112 := Eq.trans Try.func43 (congrArg some (Eq.refl (Body.n112 Try.laysReverse_ren))),
    t0 := Try.underlying0, a0 := Try.isAgg0, z0 := Try.sizeOf0, v0 := Try.zeroValue0, t3 := Try.underlying3,
    a3 := Try.isAgg3, z3 := Try.sizeOf3, v3 := Try.zeroValue3, t4 := Try.underlying4, a4 := Try.isAgg4, z4 := Try.sizeOf4,
    v4 := Try.zeroValue4, t28 := Try.underlying23, a28 := Try.isAgg23, z28 := Try.sizeOf23, v28 := Try.zeroValue23 }
open Go.RowKit Go.Lib Go.Sort
theorem sort66 (B : Nat) (v : Value) (ss : List Int) (w : World) (h : w.ownsRow B 3 1 v ss.length (ss.map (Value.int .i64))) (hl : ss.length < 4611686018427387904) :
    Calls Try.prog 66 #[v] w fun e w' => e = .returned (.tuple #[]) ∧ w'.ownsRow B 3 1 v ss.length ((Go.Abs.sortI ss).map (Value.int .i64)) ∧ w.grownBy w' v.ownBlock := by
  have hls : (Go.Abs.sortI ss).length = ss.length := List.length_mergeSort ss
  rcases h.2 with ⟨hv, h0⟩ | ⟨g, cap, cur, hv, hbase, hb, h1, h2, h3, h4⟩
  · subst hv
    have : ss = [] := List.eq_nil_of_length_eq_zero h0
    subst this
    refine (Any.slices_Sort_int_none Try.laysSort none 0 w).mono ?_
    rintro e w' ⟨rfl, rfl⟩
    rw [Go.Abs.sortI_nil]
    exact ⟨rfl, h, World.grownBy.refl _ _⟩
  · subst hv
    refine (Any.slices_Sort_int Try.laysSort g 0 cap ss w (holds_of_blockI hb (by simpa using h4)) (Array.getElem?_eq_some_iff.1 hb).1 hl).mono ?_
    rintro e w' ⟨rfl, n, os, rfl⟩
    exact ⟨rfl, ownsRow_sortedI (ts := Go.Abs.sortI ss) hls hbase hb h1 h2 h3, grownBy_sortedI _⟩
theorem compact67 (B : Nat) (v : Value) (ss : List Int) (w : World) (h : w.ownsRow B 3 1 v ss.length (ss.map (Value.int .i64))) :
    Calls Try.prog 67 #[v] w fun e w' => ∃ p c, e = .returned (.slice p (compact ss).length c) ∧ (Value.slice p (compact ss).length c).ownBlock = v.ownBlock ∧ w'.ownsRow B 3 1 (.slice p (compact ss).length c) (compact ss).length ((compact ss).map (Value.int .i64)) ∧ w.grownBy w' v.ownBlock := by
  have hle := compact_length_le ss
  rcases h.2 with ⟨hv, h0⟩ | ⟨g, cap, cur, hv, hbase, hb, h1, h2, h3, h4⟩
  · subst hv
    have : ss = [] := List.eq_nil_of_length_eq_zero h0
    subst this
    refine (Any.slices_Compact_int_empty Try.laysCompact none 0 w).mono ?_
    rintro e w' ⟨rfl, rfl⟩
    exact ⟨none, 0, rfl, rfl, h, World.grownBy.refl _ _⟩
  · subst hv
    have hm : ss.length ≤ maxLen := Nat.le_trans h1 h2
    refine (Any.slices_Compact_int Try.laysCompact g 0 cap ss w (holds_of_blockI hb (by simpa using h4)) (by simp only [maxLen] at hm; omega) h1).mono ?_
    rintro e w' ⟨rfl, q, rfl⟩
    have hc := ownsRow_putRow (q := q) (k := (compact ss).length) (ys := compact ss ++ List.replicate (ss.length - (compact ss).length) 0) h (by simp; omega) hle
    rw [List.take_left] at hc
    have hg := grownBy_sortedI (w := w) (g := g) (n := q) (os := #[]) (compact ss ++ List.replicate (ss.length - (compact ss).length) 0).toArray
    rw [grow_empty] at hg
    exact ⟨_, cap, rfl, rfl, hc, hg⟩
end Go.Proofs


set_option maxRecDepth 100000
set_option maxHeartbeats 4000000
namespace Go.Proofs
open Go.Shelf Go.RowKit Go.Lib Go.Sort
theorem aside0 {p : Prop} (h : p) : Aside p := h
theorem step_append_own {P : Program} {ops : Array Oper} {o : Oper} {a : Act} {w : World} {K : Act → World → Prop} {Q : Exit → Act → World → Prop} {E : Prop}
    (hg : o.guard = none) (s x : Operand) (t : TypeId) (hop : o.op = Op.call { callee := Callee.builtin Builtin.append, args := #[s, x], argTypes := #[t, t] })
    (base : Nat) (e : TypeId) (i : TypeInfo) (z : Value) (size bytes : Nat) (h1 : P.underlying t = some (.slice e)) (h2 : P.info? e = some i) (h3 : i.zero = some z) (h4 : i.size = size) (h5 : i.bytes = bytes) (h6 : z.cells.size = size) (h7 : 0 < size)
    (v : Value) (n : Nat) (xs : List Value) (hs : a.eval s = v) (hown : w.ownsRow base e size v n xs)
    (ad : Addr) (m c : Nat) (news : List Value) (hx : a.eval x = .slice (some ad) m c) (hn : news.length = m * size) (hc : ∀ j u, news[j]? = some u → w.cell? (ad.add j) = some u) (h1c : ∀ u ∈ news, u.oneCell' = true)
    (b1 : n + m ≤ maxLen) (b2 : (n + m) * bytes ≤ 140737488355328) (hbase : base ≤ w.heap.size)
    (hK : ∀ v' w', w'.ownsRow base e size v' (n + m) (xs ++ news) → w.grownBy w' v.ownBlock → (v'.ownBlock = v.ownBlock ∨ v'.ownBlock = some w.heap.size) → K (a.put o.dst v') w') :
    if Region.wanted o (yielded ops a.tmps) = true then Oper.wp P o a w K Q else E := by
  have hw : Region.wanted o (yielded ops a.tmps) = true := by simp [Region.wanted, hg]
  rw [if_pos hw]
  obtain ⟨v', w', hr, r2, r3, r4, r5⟩ := run_append_own_at (P := P) w base t o.type e i z size bytes h1 h2 h3 h4 h5 h6 h7 v n xs hown ad m c news hn hc h1c b1 b2 hbase
  unfold Oper.wp
  simp [execOp, hop, resolve, invoke, builtin, hs, hx, hr, Result.andThen]
  exact hK v' w' r2 r3 r5
def edgesTo (E : Nat → Int × Int) (m i : Nat) : List Int := ((List.range m).filter fun k => decide ((E k).1 = i)).map fun k => (E k).2
structure NxC (w : World) (g n : Nat) (L : Nat → List Int) (V : Nat → Value) (wr : World) : Prop where
  row : wr.rowIs g 23 n V
  own : ∀ i, i < n → wr.ownsRow (g + 1) 3 1 (V i) (L i).length ((L i).map (Value.int .i64))
  sep : ∀ i j, i < n → j < n → i ≠ j → (V i).ownBlock = none ∨ (V i).ownBlock ≠ (V j).ownBlock
  bel : Below w.heap.size w wr
  hb : w.heap.size ≤ g
theorem NxC.start (w : World) (n : Nat) (E : Nat → Int × Int) : NxC w w.heap.size n (fun i => ((List.range 0).filter fun k => decide ((E k).1 = i)).map fun k => (E k).2) (fun _ => .slice none 0 0) (w.alloc (.cells (madeCells #[.slice none 0 0] n) 23)) :=
  ⟨World.rowIs_made w _ n 23, fun i _ => ⟨rfl, .inl ⟨rfl, rfl⟩⟩, fun i j _ _ _ => .inl rfl, (Below.refl _ _).alloc (Nat.le_refl _) _, Nat.le_refl _⟩
structure NxW (w : World) (g n x : Nat) (y : Int) (L : Nat → List Int) (V : Nat → Value) (r : Nat) (W : World) : Prop where
  c : NxC w g n L V W
  e0 : W.cell? ⟨r, 0, none⟩ = some (.int .i64 (x : Int))
  e1 : W.cell? ⟨r, 1, none⟩ = some (.int .i64 y)
  r0 : g < r
  r1 : r < W.heap.size
  r2 : ∀ i, i < n → (V i).ownBlock = none ∨ (V i).ownBlock ≠ some r
theorem NxC.alloc {w wr : World} {g n : Nat} {L : Nat → List Int} {V : Nat → Value} (A : NxC w g n L V wr) (o : Obj) : NxC w g n L V (wr.alloc o) :=
  ⟨A.row.alloc o, fun i hi => (A.own i hi).alloc o, A.sep, A.bel.alloc A.bel.size o, A.hb⟩
theorem NxC.edge {w wr : World} {g n x : Nat} {y : Int} {L : Nat → List Int} {V : Nat → Value} (A : NxC w g n L V wr) : NxW w g n x y L V wr.heap.size (wr.alloc (.cells #[.int .i64 (x : Int), .int .i64 y] 59)) :=
  ⟨A.alloc _, by rw [Lib.cell_of_heap (heap_alloc_new wr _)]; rfl, by rw [Lib.cell_of_heap (heap_alloc_new wr _)]; rfl, A.row.lt, by show _ < (wr.heap.push _).size; rw [Array.size_push]; omega, fun i hi => by
    cases h : (V i).ownBlock with
    | none => exact .inl rfl
    | some j => exact .inr fun e => by have := ((A.own i hi).lt j h).2; cases e; omega⟩
theorem NxW.alloc {w W : World} {g n x r : Nat} {y : Int} {L : Nat → List Int} {V : Nat → Value} (A : NxW w g n x y L V r W) (o : Obj) : NxW w g n x y L V r (W.alloc o) :=
  ⟨A.c.alloc o, (World.cell?_of_block (w := W) (Below.heap_alloc W o r A.r1)).trans A.e0, (World.cell?_of_block (w := W) (Below.heap_alloc W o r A.r1)).trans A.e1, A.r0, by show _ < (W.heap.push _).size; rw [Array.size_push]; have := A.r1; omega, A.r2⟩
theorem NxW.grown {w W w' : World} {g n x r : Nat} {y : Int} {L : Nat → List Int} {V : Nat → Value} (A : NxW w g n x y L V r W) (hx : x < n) (hg : W.grownBy w' (V x).ownBlock) :
    w'.rowIs g 23 n V ∧ w'.cell? ⟨r, 0, none⟩ = some (.int .i64 (x : Int)) ∧ w'.cell? ⟨r, 1, none⟩ = some (.int .i64 y) ∧ Below w.heap.size w w' := by
  have hl : ∀ j, (V x).ownBlock = some j → g + 1 ≤ j ∧ j < W.heap.size := (A.c.own x hx).lt
  have hgl : g < W.heap.size := A.c.row.lt
  have hne : some g ≠ (V x).ownBlock := fun e => by have := (hl g e.symm).1; omega
  have hnr : some r ≠ (V x).ownBlock := fun e => by rcases A.r2 x hx with h | h; rw [h] at e; cases e; exact h e.symm
  exact ⟨A.c.row.of_block (hg.block g hgl hne), (World.cell?_of_block (w := W) (hg.block r A.r1 hnr)).trans A.e0, (World.cell?_of_block (w := W) (hg.block r A.r1 hnr)).trans A.e1, A.c.bel.grown hg A.c.bel.size (fun j hj => by have := (hl j hj).1; have := A.c.hb; omega)⟩
theorem grown_drew {w w' : World} {row : Option Nat} (h : w.drew.grownBy w' row) : w.grownBy w' row := ⟨h.os, h.tape, h.output, h.size, h.block⟩
theorem own_form {w : World} {base e size n : Nat} {v : Value} {xs : List Value} (h : w.ownsRow base e size v n xs) : ∃ p c, v = .slice p n c := by
  rcases h.2 with ⟨rfl, rfl⟩ | ⟨g, c, _, rfl, _⟩
  · exact ⟨_, _, rfl⟩
  · exact ⟨_, _, rfl⟩
theorem NxC.put {w W w' : World} {g n x r k : Nat} {y : Int} {E : Nat → Int × Int} {V : Nat → Value} {v' : Value} (A : NxW w g n x y (edgesTo E k) V r W) (hx : x < n) (hE : (x : Int) = (E k).1 ∧ (E k).2 = y)
    (ho : w'.ownsRow (g + 1) 3 1 v' ((edgesTo E k x).length + 1) ((edgesTo E k x).map (Value.int .i64) ++ [.int .i64 y])) (hg : W.grownBy w' (V x).ownBlock) (hat : v'.ownBlock = (V x).ownBlock ∨ v'.ownBlock = some W.heap.size) :
    NxC w g n (edgesTo E (k + 1)) (fun i => if i = x then v' else V i) (w'.setCell ⟨g, x, none⟩ v') := by
  obtain ⟨Q, _, _, hb⟩ := A.grown hx hg
  have e1 : ∀ i : Nat, edgesTo E (k + 1) i = if i = x then edgesTo E k i ++ [y] else edgesTo E k i := by
    intro i
    unfold edgesTo
    rw [List.range_succ, List.filter_append, List.map_append]
    by_cases h : i = x
    · subst h
      rw [if_pos rfl, List.filter_cons, if_pos (by simp [← hE.1])]
      simp [hE.2]
    · rw [if_neg h, List.filter_cons, if_neg (by simp only [decide_eq_true_eq, ← hE.1]; omega)]
      simp
  refine ⟨Q.set x v', fun i hi => ?_, fun i j hi hj hij => ?_, hb.setCell A.c.hb _, A.c.hb⟩
  · rw [e1]
    by_cases h : i = x
    · subst h
      rw [if_pos rfl, if_pos rfl, List.length_append, List.length_singleton, List.map_append]
      exact ownsRow_setCell_below ho (by show g < g + 1; omega) _
    · rw [if_neg h, if_neg h]
      exact ownsRow_setCell_below ((A.c.own i hi).kept hg (A.c.sep i x hi hx h)) (by show g < g + 1; omega) _
  · have new : ∀ i, i < n → (V i).ownBlock ≠ some W.heap.size := fun i hi e => by have := ((A.c.own i hi).lt _ e).2; omega
    by_cases h : i = x
    · subst h
      rw [if_pos rfl, if_neg (Ne.symm hij)]
      rcases hat with h | h
      · rw [h]; exact A.c.sep i j hi hj hij
      · rw [h]; exact .inr fun e => new j hj e.symm
    · rw [if_neg h]
      by_cases h2 : j = x
      · subst h2
        rw [if_pos rfl]
        rcases hat with h | h
        · rw [h]; exact A.c.sep i j hi hj hij
        · rw [h]; exact .inr (new i hi)
      · rw [if_neg h2]; exact A.c.sep i j hi hj hij
theorem grow_trans {a b c : World} {r : Option Nat} (h : a.grownBy b r) (k : b.grownBy c r) : a.grownBy c r := ⟨k.os.trans h.os, k.tape.trans h.tape, k.output.trans h.output, Nat.le_trans h.size k.size, fun i hi hn => (k.block i (Nat.lt_of_lt_of_le hi h.size) hn).trans (h.block i hi hn)⟩
theorem NxC.sorted {w wr w1 w2 : World} {g n k : Nat} {L : Nat → List Int} {V : Nat → Value} {p : Option Addr} {c : Nat} {l1 l2 : List Int} (A : NxC w g n L V wr) (hk : k < n)
    (h1 : w1.ownsRow (g + 1) 3 1 (V k) (L k).length (l1.map (Value.int .i64))) (g1 : wr.grownBy w1 (V k).ownBlock)
    (h2 : w2.ownsRow (g + 1) 3 1 (.slice p l2.length c) l2.length (l2.map (Value.int .i64))) (g2 : w1.grownBy w2 (V k).ownBlock) (hb : (Value.slice p l2.length c).ownBlock = (V k).ownBlock) :
    w2.rowIs g 23 n V ∧ NxC w g n (fun i => if i = k then l2 else L i) (fun i => if i = k then .slice p l2.length c else V i) (w2.setCell ⟨g, k, none⟩ (.slice p l2.length c)) := by
  have gg := grow_trans g1 g2
  have hl : ∀ j, (V k).ownBlock = some j → g + 1 ≤ j ∧ j < wr.heap.size := (A.own k hk).lt
  have hgl : g < wr.heap.size := A.row.lt
  have hne : some g ≠ (V k).ownBlock := fun e => by have := (hl g e.symm).1; omega
  have Q := A.row.of_block (gg.block g hgl hne)
  refine ⟨Q, Q.set k _, fun i hi => ?_, fun i j hi hj hij => ?_, (A.bel.grown gg A.bel.size (fun j hj => by have := (hl j hj).1; have := A.hb; omega)).setCell A.hb _, A.hb⟩
  · by_cases h : i = k
    · subst h
      rw [if_pos rfl, if_pos rfl]
      exact ownsRow_setCell_below h2 (by show g < g + 1; omega) _
    · rw [if_neg h, if_neg h]
      exact ownsRow_setCell_below ((A.own i hi).kept gg (A.sep i k hi hk h)) (by show g < g + 1; omega) _
  · by_cases h : i = k
    · subst h
      rw [if_pos rfl, if_neg (Ne.symm hij), hb]
      exact A.sep i j hi hj hij
    · rw [if_neg h]
      by_cases h2 : j = k
      · subst h2
        rw [if_pos rfl, hb]; exact A.sep i j hi hj hij
      · rw [if_neg h2]; exact A.sep i j hi hj hij
def toList (E : Nat → Int × Int) (m i : Nat) : List Int := compact (Go.Abs.sortI (edgesTo E m i))
def mixL (E : Nat → Int × Int) (m k i : Nat) : List Int := if i < k then toList E m i else edgesTo E m i
theorem mixL_next (E : Nat → Int × Int) (m k : Nat) : (fun i => if i = k then toList E m k else mixL E m k i) = mixL E m (k + 1) := by
  funext i
  unfold mixL
  by_cases h : i = k
  · subst h; rw [if_pos rfl, if_pos (by omega)]
  · rw [if_neg h]
    by_cases h2 : i < k
    · rw [if_pos h2, if_pos (by omega)]
    · rw [if_neg h2, if_neg (by omega)]
theorem next51 (n m b o c : Nat) (E : Nat → Int × Int) (p0 : Option Addr) (w : World) (hn : n ≤ 100000) (hm : m ≤ 100000)
    (I : Aside ((m ≠ 0 → p0 = some ⟨b, o, none⟩) ∧ (∀ k, k < m → 0 ≤ (E k).1 ∧ (E k).1 < n) ∧
      (∀ k, k < m → ∀ w', Below w.heap.size w w' → w'.cell? ⟨b, o + k * 2, none⟩ = some (.int .i64 (E k).1) ∧ w'.cell? ⟨b, o + k * 2 + 1, none⟩ = some (.int .i64 (E k).2)))) :
    Calls Try.prog 51 #[.int .i64 n, .slice p0 m c] w fun e w' => ∃ g V, e = .returned (.slice (some ⟨g, 0, none⟩) n n) ∧ NxC w g n (toList E m) V w' := by
  obtain ⟨i0, hi, hz0, hz1, hz2⟩ := info_parts (P := Try.prog) (e := 3) (z := .int .i64 0) (size := 1) (bytes := 8) (by kernel_rfl)
  have hmk := run_make_row' (P := Try.prog) 68 23 (.slice none 0 0) 24 Try.underlying68 (by kernel_rfl) rfl .i64 .i64 n (by omega) (by omega) w
  go_enter Try.func51, Try.ntmps51
  go_wp2
  clear hmk
  go_loopg [14] m (fun g i wr => ∃ k V, k ≤ m ∧ g = m - k ∧ i = .int .i64 (k : Nat) ∧ NxC w w.heap.size n (edgesTo E k) V wr)
  case atStart => exact ⟨0, _, Nat.zero_le _, rfl, rfl, NxC.start w n E⟩
  case round =>
    obtain ⟨k, V, hk, rfl, rfl, A⟩ := hrel
    by_cases hlt : k < m
    · have hlt' : (k : Int) < m := by omega
      obtain rfl := I.out.1 (by omega)
      obtain ⟨hx0, hxn⟩ := I.out.2.1 k hlt
      obtain ⟨hc1, hc2⟩ := I.out.2.2 k hlt wr A.bel
      obtain ⟨x, hx⟩ : ∃ x : Nat, (x : Int) = (E k).1 := ⟨(E k).1.toNat, by omega⟩
      obtain ⟨y, hy⟩ : ∃ y, (E k).2 = y := ⟨_, rfl⟩
      rw [← hx] at hc1 hxn
      rw [hy] at hc2
      have hxn' : x < n := by omega
      have hV := A.row.cell hxn'
      have X : Aside ((x : Int) = (E k).1 ∧ (E k).2 = y) := ⟨hx, hy⟩
      clear hx hy hx0
      go_wp2
      have N := A.edge (x := x) (y := y)
      obtain ⟨W, hW⟩ : ∃ W, W = wr.alloc (.cells #[.int .i64 (x : Int), .int .i64 y] 59) := ⟨_, rfl⟩
      obtain ⟨r, hr⟩ : ∃ r, r = wr.heap.size := ⟨_, rfl⟩
      rw [← hW, ← hr] at N
      rw [← hW, ← hr]
      clear hW hr
      have f0 := N.e0
      have f1 := N.e1
      have fg := N.c.row.cell hxn'
      have B : Aside ((edgesTo E k x).length + 1 ≤ maxLen ∧ ((edgesTo E k x).length + 1) * 8 ≤ 140737488355328) := by
        have : (edgesTo E k x).length ≤ k := by unfold edgesTo; rw [List.length_map]; exact Nat.le_trans (List.length_filter_le _ _) (by simp)
        exact ⟨by unfold maxLen; omega, by omega⟩
      have M := N.alloc (.cells #[.int .i64 y] 3)
      have k0 := M.e0
      have k1 := M.e1
      have kg := M.c.row.cell hxn'
      have NN := aside0 N
      have MM := aside0 M
      have hbs : Aside (w.heap.size + 1 ≤ (W.alloc (.cells #[.int .i64 y] 3)).heap.size) := M.c.row.lt
      clear N M A hV
      go_region_law (refine step_append_own rfl (.tmp 25) (.tmp 28) 23 rfl (w.heap.size + 1) 3 i0 (.int .i64 0) 1 8 Try.underlying23 hi hz0 hz1 hz2 rfl (by decide) (V x) (edgesTo E k x).length ((edgesTo E k x).map (Value.int .i64)) (by simp [Act.eval, Act.put]) (MM.out.c.own x hxn') ⟨W.heap.size, 0, none⟩ 1 1 [.int .i64 y] (by simp [Act.eval, Act.put]) rfl (cell_one_new _ _ _) (by intro u hu; rw [List.mem_singleton.1 hu]; rfl) B.out.1 B.out.2 hbs.out ?_; intro v' w' hown hgrow hat; (obtain ⟨p', c', rfl⟩ := own_form hown); have Q := NxW.grown MM.out hxn' (grown_drew hgrow); have qg := Q.1.cell hxn'; have qf := Q.1.frozen x; have q0 := Q.2.1; have q1 := Q.2.2.1; have R := aside0 (And.intro hown (And.intro (grown_drew hgrow) hat)); clear hown hgrow hat Q)
      all_goals
        have wk : IntKind.i64.wrap ((k : Int) + 1) = ((k + 1 : Nat) : Int) := by rw [Go.Abs.wrap_in (by omega) (by omega)]; omega
        have RR := aside0 (NxC.put MM.out hxn' X.out R.out.1 R.out.2.1 R.out.2.2)
        clear qg qf q0 q1 f0 f1 fg k0 k1 kg NN MM hbs R B
        go_wp2
        go_roundg (m - (k + 1))
        case rel => exact ⟨k + 1, _, hlt, rfl, by go_num, RR.out⟩
        case measure => omega
    · obtain rfl : k = m := by omega
      have A0 : NxC w w.heap.size n (mixL E k 0) V wr := by
        have e : mixL E k 0 = edgesTo E k := by funext i; exact if_neg (by omega)
        rw [e]; exact A
      clear A
      go_wp2
      go_loopg [34] n (fun g i wr => ∃ j V, j ≤ n ∧ g = n - j ∧ i = .int .i64 (j : Nat) ∧ NxC w w.heap.size n (mixL E k j) V wr)
      case atStart => exact ⟨0, _, Nat.zero_le _, rfl, rfl, A0⟩
      case round =>
        obtain ⟨j, V, hj, rfl, rfl, A⟩ := hrel
        by_cases hlt : j < n
        · have hlt' : (j : Int) < n := by omega
          have hV := A.row.cell hlt
          have hll : (mixL E k j j).length ≤ 100000 := by
            unfold mixL edgesTo
            rw [if_neg (by omega), List.length_map]
            exact Nat.le_trans (List.length_filter_le _ _) (by simpa using hm)
          have c66 := sort66 (w.heap.size + 1) (V j) (mixL E k j j) wr (A.own j hlt) (by omega)
          have AA := aside0 A
          clear A
          go_wp2_with (first
            | (go_at_call 67; refine c67.mono ?_; (rintro e w2 ⟨p, c2, rfl, hb2, ho2, hg2⟩; have R := aside0 (NxC.sorted (l1 := Go.Abs.sortI (mixL E k j j)) AA.out hlt K1.out.1 K1.out.2 ho2 hg2 hb2); have qg := R.out.1.cell hlt; have qf := R.out.1.frozen j; clear c67 hb2 ho2 hg2))
            | (go_at_call 66; refine c66.mono ?_; (rintro e w1 ⟨rfl, ho1, hg1⟩; have K1 := aside0 (And.intro ho1 hg1); have c67 := compact67 (w.heap.size + 1) (V j) (Go.Abs.sortI (mixL E k j j)) w1 (by have e := List.length_mergeSort (le := fun x y => decide (x ≤ y)) (mixL E k j j); rw [show (Go.Abs.sortI (mixL E k j j)).length = (mixL E k j j).length from e]; exact ho1); clear c66 ho1 hg1)))
          have wj : IntKind.i64.wrap ((j : Int) + 1) = ((j + 1 : Nat) : Int) := by rw [Go.Abs.wrap_in (by omega) (by omega)]; omega
          have R2 : NxC w w.heap.size n (mixL E k (j + 1)) (fun i => if i = j then .slice p (compact (Go.Abs.sortI (mixL E k j j))).length c2 else V i) (w2.setCell ⟨w.heap.size, j, none⟩ (.slice p (compact (Go.Abs.sortI (mixL E k j j))).length c2)) := by
            have e : (fun i => if i = j then compact (Go.Abs.sortI (mixL E k j j)) else mixL E k j i) = mixL E k (j + 1) := by
              rw [← mixL_next]
              funext i
              have e2 : mixL E k j j = edgesTo E k j := if_neg (by omega)
              rw [e2]; rfl
            rw [← e]; exact R.out.2
          have R3 := aside0 R2
          clear R R2 qg qf AA K1
          go_roundg (n - (j + 1))
          case rel => exact ⟨j + 1, _, hlt, rfl, by go_num, R3.out⟩
          case measure => omega
        · obtain rfl : j = n := by omega
          have A1 : NxC w w.heap.size j (toList E k) V wr := ⟨A.row, fun i hi => by have h := A.own i hi; unfold mixL at h; rwa [if_pos hi] at h, A.sep, A.bel, A.hb⟩
          have A2 := aside0 A1
          clear A A1
          go_wp2
          go_ret
          exact ⟨w.heap.size, V, rfl, A2.out⟩
end Go.Proofs


set_option maxRecDepth 100000
set_option maxHeartbeats 4000000
namespace Go.Abs
open Go.Proofs Go.RowKit
def encE (p : Int × Int) : List C := [.int .i64 p.1, .int .i64 p.2]
def eds (l : List (Int × Int)) : List (List C) := l.map encE
@[simp] theorem eds_len (l : List (Int × Int)) : (eds l).length = l.length := by simp [eds]
theorem eds_at {l : List (Int × Int)} {i : Nat} (h : i < l.length) : (eds l).getD i [] = [.int .i64 l[i].1, .int .i64 l[i].2] := by simp [eds, encE, h]
@[simp] theorem normRow_encE (p : Int × Int) : C.normRow (encE p) = encE p := rfl
@[simp] theorem normRows_eds (l : List (Int × Int)) : C.normRows (eds l) = eds l := normRows_eq (fun _ => rfl) l
theorem eds_snoc (l : List (Int × Int)) (a b : Int) : eds l ++ [[.int .i64 a, .int .i64 b]] = eds (l ++ [(a, b)]) := by simp [eds, encE]
theorem plain_eds (l : List (Int × Int)) : Plain 2 (eds l) := by
  refine ⟨by decide, fun r hr => ?_, fun r hr c hc => ?_⟩ <;> obtain ⟨s, _, rfl⟩ := List.mem_map.1 hr
  · rfl
  · simp [encE] at hc; rcases hc with rfl | rfl <;> rfl
def outs (l : List (Int × Int)) (i : Int) : List Int := Lib.compact (sortI ((l.filter fun p => decide (p.1 = i)).map (·.2)))
def nextG (n : Nat) (l : List (Int × Int)) : List (List Int) := (List.range n).map fun (i : Nat) => outs l (i : Int)
theorem nextG_len (n : Nat) (l : List (Int × Int)) : (nextG n l).length = n := by simp [nextG]
theorem toList_outs (l : List (Int × Int)) (i : Nat) : toList (fun k => l.getD k (0, 0)) l.length i = outs l i := by
  unfold toList outs edgesTo
  congr 2
  have : ∀ (l : List (Int × Int)), ((List.range l.length).filter fun k => decide ((l.getD k (0, 0)).1 = (i : Int))).map (fun k => (l.getD k (0, 0)).2) = (l.filter fun p => decide (p.1 = (i : Int))).map (·.2) := by
    intro l
    have e : l = (List.range l.length).map fun k => l.getD k (0, 0) := by
      apply List.ext_getElem
      · simp
      · intro k h1 h2; simp [List.getD, h1]
    conv => rhs; rw [e]
    rw [List.filter_map, List.map_map]
    rfl
  exact this l
theorem g51 (n : Nat) (l : List (Int × Int)) (hn : n ≤ 100000) (hl : l.length ≤ 100000) (hr : ∀ p ∈ l, 0 ≤ p.1 ∧ p.1 < n) :
    Spec Try.prog 51 [.int .i64 n, lst 2 (eds l)] (fun r => r = .k (.newl 23 1 none (ill (nextG n l)))) := by
  refine ⟨callable_at (by kernel_rfl), fun w Z vs hG hz ha => ?_⟩
  obtain ⟨vl⟩ := vs
  match vl, ha with
  | [], ha => exact absurd ha.1 (by simp)
  | [_], ha => exact absurd ha.1 (by simp)
  | _ :: _ :: _ :: _, ha => exact absurd ha.1 (by simp)
  | [vi, v], ha =>
    have hvi : vi = .int .i64 n := prep_int (ha.2 0 _ vi rfl rfl).2.2
    subst hvi
    obtain ⟨p, cap, rfl, q, m⟩ := (plain_eds l).slice (ha.2 1 _ v rfl rfl).2.2
    rw [eds_len] at *
    have key : ∀ b o, (l.length ≠ 0 → p = some ⟨b, o, none⟩ ∧ b < w.heap.size) → (∀ j u, (cellsC (eds l))[j]? = some u → w.cell? ⟨b, o + j, none⟩ = some u) →
        Calls Try.prog 51 #[.int .i64 n, .slice p l.length cap] w fun e w' => ∃ g V, e = .returned (.slice (some ⟨g, 0, none⟩) n n) ∧ NxC w g n (toList (fun k => l.getD k (0, 0)) l.length) V w' := by
      intro b o hp hc
      refine next51 n l.length b o cap (fun k => l.getD k (0, 0)) p w hn hl ⟨fun h => (hp h).1, fun k hk => ?_, fun k hk w' hb => ?_⟩
      · have : l.getD k (0, 0) = l[k] := by simp [List.getD, hk]
        simp only [this]
        exact hr _ (List.getElem_mem hk)
      · have hb0 := (hp (by omega)).2
        have e : ∀ j, (j = 0 ∨ j = 1) → ∀ u, (encE l[k])[j]? = some u → (cellsC (eds l))[k * 2 + j]? = some (valC u) := fun j hj u hu => ((plain_eds l).at (r := encE l[k]) (by simp [eds, hk]) hu).1
        have hgd : l.getD k (0, 0) = l[k] := by simp [List.getD, hk]
        simp only [hgd]
        refine ⟨?_, ?_⟩
        · rw [hb.cell (p := ⟨b, o + k * 2, none⟩) hb0]
          exact hc _ _ (e 0 (.inl rfl) _ rfl)
        · rw [hb.cell (p := ⟨b, o + k * 2 + 1, none⟩) hb0]
          have := hc _ _ (e 1 (.inr rfl) _ rfl)
          rwa [← Nat.add_assoc] at this
    have fin : Calls Try.prog 51 #[.int .i64 n, .slice p l.length cap] w fun e w' => ∃ g V, e = .returned (.slice (some ⟨g, 0, none⟩) n n) ∧ NxC w g n (toList (fun k => l.getD k (0, 0)) l.length) V w' := by
      by_cases h0 : l.length = 0
      · refine key 0 0 (fun h => absurd h0 h) (fun j u hu => ?_)
        have : l = [] := List.eq_nil_of_length_eq_zero h0
        subst this
        simp [eds, cellsC] at hu
      · obtain ⟨b, o, rfl, hc⟩ := q (by omega)
        refine key b o (fun _ => ⟨rfl, ?_⟩) hc
        have hpos : 0 < l.length := by omega
        have h1 := hc _ _ ((plain_eds l).at (i := 0) (j := 0) (r := encE l[0]) (by simp [eds, hpos]) rfl).1
        unfold World.cell? at h1
        cases hh : w.heap[b]? with
        | none => rw [hh] at h1; simp at h1
        | some ob => exact (Array.getElem?_eq_some_iff.1 hh).1
    refine fin.mono ?_
    rintro e w' ⟨g, V, rfl, A⟩
    have hlen := nextG_len n l
    refine ⟨_, _, rfl, rfl, fun τ => rfl, ?_⟩
    have := rrep_ill (Z := Z) (e := 23) (g := g) (ls := nextG n l) (V := V) hG A.bel A.hb (by rw [hlen]; unfold maxLen; omega) (by rw [hlen]; exact A.row) (fun i hi => by
      rw [hlen] at hi
      have e : (nextG n l).getD i [] = outs l i := by simp [nextG, hi]
      rw [e, ← toList_outs]
      exact A.own i hi)
    rwa [hlen] at this
end Go.Abs


set_option maxRecDepth 100000
set_option maxHeartbeats 4000000
namespace Go.Abs
def getI (l : List Int) (i : Int) : Int := l.getD i.toNat 0
def zeros (l : List Int) : Nat := (l.filter fun x => decide (x = 0)).length
def bfsIn (s b : Int) : List Int → List Int → List Int → List Int × List Int
  | [], far, q => (far, q)
  | a :: l, far, q => if a > s ∧ getI far a = 0 then bfsIn s b l (far.set a.toNat (getI far b + 1)) (q ++ [a]) else bfsIn s b l far q
def bfs (back : List (List Int)) (s : Int) : Nat → List Int → List Int → List Int
  | 0, far, _ => far
  | _ + 1, far, [] => far
  | k + 1, far, b :: q => bfs back s k (bfsIn s b (back.getD b.toNat []) far q).1 (bfsIn s b (back.getD b.toNat []) far q).2
def stepsG (back : List (List Int)) (s n : Nat) : List Int := bfs back s n ((List.replicate n (0 : Int)).set s 1) [(s : Int)]
theorem zeros_set : ∀ (l : List Int) (i : Nat) (v : Int), i < l.length → l.getD i 0 = 0 → v ≠ 0 → zeros (l.set i v) + 1 = zeros l
  | [], i, v, h, _, _ => absurd h (by simp)
  | x :: l, 0, v, _, h0, hv => by
    have h0 : x = 0 := h0
    subst h0
    simp [zeros, hv]
  | x :: l, i + 1, v, h, h0, hv => by
    have ih := zeros_set l i v (by simpa using h) (by simpa using h0) hv
    unfold zeros at ih ⊢
    by_cases hx : x = 0
    · simp [hx] at ih ⊢; omega
    · simp [hx] at ih ⊢; exact ih
theorem zeros_le (l : List Int) : zeros l ≤ l.length := List.length_filter_le _ _
structure Sane (n : Nat) (far : List Int) (q : List Int) : Prop where
  len : far.length = n
  pos : ∀ i, 0 ≤ far.getD i 0
  top : ∀ i, far.getD i 0 ≤ (n : Int) - zeros far
  q0 : ∀ a ∈ q, 0 ≤ a ∧ a < n
theorem Sane.push {n : Nat} {far q : List Int} (h : Sane n far q) {a b : Int} (ha : 0 ≤ a ∧ a < n) (h0 : getI far a = 0) : Sane n (far.set a.toNat (getI far b + 1)) (q ++ [a]) := by
  have hal : a.toNat < far.length := by rw [h.len]; omega
  have hb := h.pos b.toNat
  have hz := zeros_set far a.toNat (getI far b + 1) hal h0 (by unfold getI; omega)
  have hg : ∀ i, (far.set a.toNat (getI far b + 1)).getD i 0 = if i = a.toNat then getI far b + 1 else far.getD i 0 := by
    intro i
    rw [List.getD_eq_getElem?_getD, List.getElem?_set]
    by_cases hi : a.toNat = i
    · subst hi; simp [hal]
    · simp [hi, Ne.symm hi]
  have ht := h.top b.toNat
  refine ⟨by rw [List.length_set]; exact h.len, fun i => ?_, fun i => ?_, fun x hx => ?_⟩
  · rw [hg]; split
    · unfold getI; omega
    · exact h.pos i
  · rw [hg]; split
    · unfold getI; unfold getI at hz; omega
    · have := h.top i; omega
  · rcases List.mem_append.1 hx with hx | hx
    · exact h.q0 x hx
    · rw [List.mem_singleton.1 hx]; exact ha
theorem bfsIn_sane {n : Nat} (s b : Int) : ∀ (l far q : List Int), (∀ a ∈ l, 0 ≤ a ∧ a < n) → Sane n far q → Sane n (bfsIn s b l far q).1 (bfsIn s b l far q).2 ∧ zeros (bfsIn s b l far q).1 + (bfsIn s b l far q).2.length = zeros far + q.length
  | [], far, q, _, h => ⟨h, rfl⟩
  | a :: l, far, q, hl, h => by
    have ha := hl a List.mem_cons_self
    have hl' : ∀ x ∈ l, 0 ≤ x ∧ x < n := fun x hx => hl x (List.mem_cons_of_mem _ hx)
    rw [bfsIn]
    by_cases hc : a > s ∧ getI far a = 0
    · rw [if_pos hc]
      obtain ⟨h1, h2⟩ := bfsIn_sane s b l _ _ hl' (h.push (b := b) ha hc.2)
      refine ⟨h1, ?_⟩
      rw [h2, List.length_append, List.length_singleton]
      have := zeros_set far a.toNat (getI far b + 1) (by rw [h.len]; omega) hc.2 (by have := h.pos b.toNat; unfold getI; omega)
      omega
    · rw [if_neg hc]
      exact bfsIn_sane s b l far q hl' h
theorem sane_start {n s : Nat} (hs : s < n) : Sane n ((List.replicate n (0 : Int)).set s 1) [(s : Int)] ∧ zeros ((List.replicate n (0 : Int)).set s 1) + 1 = n := by
  have hz0 : zeros (List.replicate n (0 : Int)) = n := by unfold zeros; rw [List.filter_replicate]; simp
  have hz := zeros_set (List.replicate n (0 : Int)) s 1 (by simpa using hs) (by simp [List.getD, hs]) (by decide)
  have hg : ∀ i, ((List.replicate n (0 : Int)).set s 1).getD i 0 = if i = s then 1 else 0 := by
    intro i
    rw [List.getD_eq_getElem?_getD, List.getElem?_set]
    by_cases hi : s = i
    · subst hi; simp [hs]
    · simp only [hi, if_false, Ne.symm hi, List.getElem?_replicate]; split <;> rfl
  refine ⟨⟨by simp, fun i => ?_, fun i => ?_, fun a ha => ?_⟩, by omega⟩
  · rw [hg]; split <;> decide
  · rw [hg]; split <;> omega
  · rw [List.mem_singleton.1 ha]; omega
end Go.Abs
namespace Go.Proofs
open Go.Shelf Go.RowKit Go.Lib Go.Abs
def QOwn (w : World) (B : Nat) (v : Value) (Q : List Int) : Prop :=
  ∃ g h c N f, v = .slice (some ⟨g, h, none⟩) Q.length c ∧ B ≤ g ∧ w.rowIs g 3 N f ∧ h + c ≤ N ∧ Q.length ≤ c ∧ ∀ i, i < Q.length → f (h + i) = .int .i64 (Q.getD i 0)
theorem QOwn.keep {w w' : World} {B : Nat} {v : Value} {Q : List Int} {row : Option Nat} (h : QOwn w B v Q) (hg : w.grownBy w' row) (hr : ∀ k, row = some k → k < B) : QOwn w' B v Q := by
  obtain ⟨g, hh, c, N, f, hv, hB, hr2, hN, hl, hf⟩ := h
  exact ⟨g, hh, c, N, f, hv, hB, hr2.of_block (hg.block g hr2.lt (fun e => by have := hr g e.symm; omega)), hN, hl, hf⟩
theorem QOwn.pop {w : World} {B g h c : Nat} {b : Int} {Q : List Int} {v : Value} (H : QOwn w B v (b :: Q)) (hv : v = .slice (some ⟨g, h, none⟩) (Q.length + 1) c) : QOwn w B (.slice (some ⟨g, h + 1, none⟩) Q.length (c - 1)) Q ∧ (c = 1 → QOwn w B (.slice (some ⟨g, h, none⟩) Q.length 0) Q) ∧ w.cell? ⟨g, h, none⟩ = some (.int .i64 b) ∧ 1 ≤ c := by
  obtain ⟨g', h', c', N, f, hv', hB, hr, hN, hl, hf⟩ := H
  rw [hv] at hv'
  injection hv' with e1 e2 e3
  injection e1 with e1
  injection e1 with e1 e4
  subst e1 e3 e4
  simp only [List.length_cons] at hl hf
  refine ⟨⟨g, h + 1, c - 1, N, f, rfl, hB, hr, by omega, by omega, fun i hi => ?_⟩, fun h1 => ⟨g, h, 0, N, f, rfl, hB, hr, by omega, by omega, fun i hi => by omega⟩, ?_, by omega⟩
  · have := hf (i + 1) (by omega)
    rw [show h + 1 + i = h + (i + 1) by omega, this]; rfl
  · have := hr.cell (i := h) (by omega)
    rw [this]
    have := hf 0 (by omega)
    rw [Nat.add_zero] at this
    rw [this]; rfl
theorem run_append_q {w : World} {B : Nat} {v : Value} {Q : List Int} (H : QOwn w B v Q) (ad : Addr) (c1 : Nat) (a : Int) (hx : w.cell? ad = some (.int .i64 a)) (hB : B ≤ w.heap.size) (hl : Q.length ≤ 1000000) (ty : TypeId) :
    ∃ v' w', (Builtin.append_ #[23, 23] ty #[v, .slice (some ad) 1 c1]).run Try.prog w = .ok v' w' ∧ QOwn w' B v' (Q ++ [a]) ∧ w.grownBy w' v.ownBlock ∧ (v'.ownBlock = v.ownBlock ∨ v'.ownBlock = some w.heap.size) := by
  obtain ⟨i0, hi, hz0, hz1, hz2⟩ := info_parts (P := Try.prog) (e := 3) (z := .int .i64 0) (size := 1) (bytes := 8) (by kernel_rfl)
  obtain ⟨g, h, c, N, f, rfl, hBg, hr, hN, hlc, hf⟩ := H
  have hnews : ∀ j u, [Value.int .i64 a][j]? = some u → w.cell? (ad.add j) = some u := by
    intro j u hu
    match j, hu with
    | 0, hu =>
      simp at hu; subst hu
      have : ad.add 0 = ad := by unfold Addr.add; split <;> simp_all
      rw [this]; exact hx
    | j + 1, hu => simp at hu
  by_cases hroom : Q.length + 1 ≤ c
  · have hs := Src.ofSlice (P := Try.prog) w (size := i0.size) (tx := 23) Try.underlying23 ad 1 c1 [.int .i64 a] (by rw [hz1]; rfl) hnews (by intro u hu; rw [List.mem_singleton.1 hu]; rfl)
    have hrun := run_append_room_src (P := Try.prog) w 23 23 ty 3 i0 Try.underlying23 hi g h Q.length c _ 1 _ hs hroom (fun j hj => by
        have : j = 0 := by simpa using hj
        subst this
        rw [hz1, Nat.mul_one, Nat.add_zero, hr.cell (by omega)]; rfl) (fun j _ => hr.frozen _)
    rw [hz1, Nat.mul_one] at hrun
    refine ⟨_, _, hrun, ⟨g, h, c, N, fun j => if j = h + Q.length then .int .i64 a else f j, by rw [List.length_append]; rfl, hBg, hr.set _ _, hN, by rw [List.length_append]; simpa using hroom, fun i hi => ?_⟩, ?_, .inl rfl⟩
    · rw [List.length_append, List.length_singleton] at hi
      show (if h + i = h + Q.length then _ else _) = _
      by_cases e : i = Q.length
      · subst e
        rw [if_pos rfl]; simp [List.getD]
      · rw [if_neg (by omega), hf i (by omega)]
        congr 1
        rw [List.getD_eq_getElem?_getD, List.getD_eq_getElem?_getD, List.getElem?_append_left (by omega)]
    · refine ⟨rfl, rfl, rfl, by simp [World.setCells, World.setCell], fun k hk hne => ?_⟩
      exact Below.heap_setCell w ⟨g, h + Q.length, none⟩ _ k (fun e => hne (by rw [e]; rfl))
  · have hlq : Q.length = c := by omega
    have hold : ∀ j u, (Q.map (Value.int .i64))[j]? = some u → w.cell? ((⟨g, h, none⟩ : Addr).add j) = some u := by
      intro j u hu
      obtain ⟨x, hx, rfl⟩ := (List.getElem?_map .. ▸ hu : (Q[j]?).map (Value.int .i64) = some u) |> Option.map_eq_some_iff.1
      have hj := (List.getElem?_eq_some_iff.1 hx).1
      rw [Addr.add_lit, hr.cell (by omega), hf j hj]
      rw [List.getD_eq_getElem?_getD, hx]; rfl
    have hrun := run_append_grow (P := Try.prog) w 23 ty 3 i0 (.int .i64 0) Try.underlying23 hi hz0 ⟨g, h, none⟩ Q.length c (Q.map (Value.int .i64)) (by rw [hz1]; simp) hold ad 1 c1 [.int .i64 a] (by rw [hz1]; rfl) hnews (by omega) (by omega) (growslice_fits (by omega) (by rw [hz2]; omega))
    have hge := grownCap_ge w (Q.length + 1) c 3
    generalize hA : (Q.map (Value.int .i64)).toArray ++ [Value.int .i64 a].toArray ++ Builtin.zeroCells (Value.int .i64 0).cells (grownCap w (Q.length + 1) c 3 - (Q.length + 1)) = A at hrun
    have hsz : A.size = grownCap w (Q.length + 1) c 3 := by
      rw [← hA]
      simp only [Array.size_append, List.size_toArray, List.length_map, List.length_singleton, size_zeroCells]
      show Q.length + 1 + _ * 1 = _
      omega
    have hget : ∀ i, i < Q.length + 1 → A[i]? = some (.int .i64 ((Q ++ [a]).getD i 0)) := by
      intro i hi
      rw [← hA, Array.getElem?_append_left (by simp; omega), ← Array.getElem?_toList, Array.toList_append]
      show (Q.map (Value.int .i64) ++ [Value.int .i64 a])[i]? = _
      have e : Q.map (Value.int .i64) ++ [Value.int .i64 a] = (Q ++ [a]).map (Value.int .i64) := by simp
      rw [e, List.getElem?_map, List.getD_eq_getElem?_getD, List.getElem?_eq_getElem (by simpa using hi)]
      rfl
    have hrow := World.rowIs_alloc w.drew A 3 (fun j => A.getD j (.bool true)) (fun i hi => by simp [Array.getD, hi])
    rw [hsz] at hrow
    refine ⟨_, _, hrun, ⟨w.heap.size, 0, grownCap w (Q.length + 1) c 3, _, fun j => A.getD j (.bool true), by rw [List.length_append]; rfl, hB, hrow, by omega, by rw [List.length_append]; simpa using hge, fun i hi => ?_⟩, ⟨rfl, rfl, rfl, by simp, fun k hk _ => Below.heap_alloc w.drew _ k hk⟩, .inr rfl⟩
    rw [List.length_append, List.length_singleton] at hi
    have h1 := hget i hi
    show A.getD (0 + i) _ = _
    rw [Nat.zero_add, Array.getD_eq_getD_getElem?, h1]; rfl
end Go.Proofs


set_option maxRecDepth 100000
set_option maxHeartbeats 4000000
namespace Go.Proofs
open Go.Shelf Go.RowKit Go.Lib Go.Abs
def FarIs (w : World) (ob cap n : Nat) (far : List Int) : Prop := ∃ f, w.rowIs ob 3 cap f ∧ ∀ i, i < n → f i = .int .i64 (far.getD i 0)
theorem FarIs.set {w : World} {ob cap n : Nat} {far : List Int} (h : FarIs w ob cap n far) (i : Nat) (v : Int) (hi : i < far.length) : FarIs (w.setCell ⟨ob, i, none⟩ (.int .i64 v)) ob cap n (far.set i v) := by
  obtain ⟨f, hr, hf⟩ := h
  refine ⟨_, hr.set i _, fun j hj => ?_⟩
  show (if j = i then _ else f j) = _
  rw [List.getD_eq_getElem?_getD, List.getElem?_set]
  by_cases e : j = i
  · subst e; rw [if_pos rfl]; simp [hi]
  · rw [if_neg e, hf j hj, if_neg (Ne.symm e)]; rfl
theorem FarIs.cell {w : World} {ob cap n : Nat} {far : List Int} (h : FarIs w ob cap n far) (hn : n ≤ cap) {i : Nat} (hi : i < n) : w.cell? ⟨ob, i, none⟩ = some (.int .i64 (far.getD i 0)) := by
  obtain ⟨f, hr, hf⟩ := h
  rw [hr.cell (by omega), hf i hi]
theorem FarIs.frozen {w : World} {ob cap n : Nat} {far : List Int} (h : FarIs w ob cap n far) (i : Nat) : w.frozen? ⟨ob, i, none⟩ = false := let ⟨_, hr, _⟩ := h; hr.frozen i
theorem FarIs.keep {w w' : World} {ob cap n : Nat} {far : List Int} {row : Option Nat} (h : FarIs w ob cap n far) (hg : w.grownBy w' row) (hne : row ≠ some ob) : FarIs w' ob cap n far := by
  obtain ⟨f, hr, hf⟩ := h
  exact ⟨f, hr.of_block (hg.block ob hr.lt (fun e => hne e.symm)), hf⟩
theorem FarIs.lt {w : World} {ob cap n : Nat} {far : List Int} (h : FarIs w ob cap n far) : ob < w.heap.size := let ⟨_, hr, _⟩ := h; hr.lt
theorem grown_set (w : World) (b i : Nat) (v : Value) : w.grownBy (w.setCell ⟨b, i, none⟩ v) (some b) :=
  ⟨rfl, rfl, rfl, by simp [World.setCell], fun k _ hne => Below.heap_setCell w ⟨b, i, none⟩ v k (fun e => hne (by rw [e]))⟩
theorem cleared {w : World} {b cap : Nat} : ∀ (k o : Nat) {w : World} {f : Nat → Value}, w.rowIs b 3 cap f → ∃ f', (w.setCells b o (List.replicate k (.int .i64 0))).rowIs b 3 cap f' ∧ (∀ j, o ≤ j → j < o + k → f' j = .int .i64 0) ∧ (∀ j, j < o → f' j = f j) ∧ w.grownBy (w.setCells b o (List.replicate k (.int .i64 0))) (some b)
  | 0, o, w, f, h => ⟨f, h, fun j h1 h2 => by omega, fun _ _ => rfl, ⟨rfl, rfl, rfl, Nat.le_refl _, fun _ _ _ => rfl⟩⟩
  | k + 1, o, w, f, h => by
    obtain ⟨f', h1, h2, h3, h4⟩ := cleared (w := w) k (o + 1) (h.set o (.int .i64 0))
    refine ⟨f', h1, fun j ha hb => ?_, fun j hj => ?_, grow_trans (grown_set w b o _) h4⟩
    · by_cases e : j = o
      · subst e; rw [h3 j (by omega), if_pos rfl]
      · exact h2 j (by omega) (by omega)
    · rw [h3 j (by omega), if_neg (by omega)]
structure StC (w : World) (ob cap n : Nat) (far : List Int) (v : Value) (Q : List Int) (wr : World) : Prop where
  out : FarIs wr ob cap n far
  q : QOwn wr w.heap.size v Q
  sane : Sane n far Q
  keep : w.grownBy wr (some ob)
  ql : zeros far + Q.length ≤ n
theorem StC.start {w : World} {ob cap n s : Nat} {W1 : World} (hcap : n ≤ cap) (hs : s < n) (hF : FarIs W1 ob cap n (List.replicate n 0)) (hg : w.grownBy W1 (some ob)) :
    StC w ob cap n ((List.replicate n (0 : Int)).set s 1) (.slice (some ⟨W1.heap.size, 0, none⟩) 1 1) [(s : Int)] ((W1.setCell ⟨ob, s, none⟩ (.int .i64 1)).alloc (.cells #[.int .i64 (s : Int)] 3)) := by
  have hse : (W1.setCell ⟨ob, s, none⟩ (.int .i64 1)).heap.size = W1.heap.size := by simp [World.setCell]
  have h1 := hF.set s 1 (by simpa using hs)
  have g1 := grow_trans hg (grown_set W1 ob s (.int .i64 1))
  have hsz : w.heap.size ≤ (W1.setCell ⟨ob, s, none⟩ (.int .i64 1)).heap.size := g1.size
  obtain ⟨f, hr, hf⟩ := h1
  have hrow := World.rowIs_alloc (W1.setCell ⟨ob, s, none⟩ (.int .i64 1)) #[.int .i64 (s : Int)] 3 (fun _ => .int .i64 (s : Int)) (fun i hi => by
    have : i = 0 := by simpa using hi
    subst this; rfl)
  have hq : QOwn ((W1.setCell ⟨ob, s, none⟩ (.int .i64 1)).alloc (.cells #[.int .i64 (s : Int)] 3)) w.heap.size (.slice (some ⟨(W1.setCell ⟨ob, s, none⟩ (.int .i64 1)).heap.size, 0, none⟩) 1 1) [(s : Int)] :=
    ⟨_, 0, 1, _, _, rfl, hsz, hrow, Nat.le_refl _, Nat.le_refl _, fun i hi => by
      have : i = 0 := by simpa using hi
      subst this; rfl⟩
  rw [hse] at hq
  refine ⟨⟨f, hr.alloc _, hf⟩, hq, (sane_start hs).1, ?_, by have := (sane_start hs).2; simp; omega⟩
  refine grow_trans g1 ⟨rfl, rfl, rfl, by show _ ≤ (Array.push _ _).size; rw [Array.size_push]; omega, fun k hk _ => Below.heap_alloc _ _ k hk⟩
theorem StC.popped {w wr : World} {ob cap n : Nat} {far : List Int} {v v' : Value} {b : Int} {Q : List Int} (A : StC w ob cap n far v (b :: Q) wr) (h : QOwn wr w.heap.size v' Q) : StC w ob cap n far v' Q wr :=
  ⟨A.out, h, ⟨A.sane.len, A.sane.pos, A.sane.top, fun a ha => A.sane.q0 a (List.mem_cons_of_mem _ ha)⟩, A.keep, by have := A.ql; simp only [List.length_cons] at this; omega⟩
theorem wpList_append_q {w : World} {ops : Array Oper} {rest : List Oper} {o : Oper} {a : Act} {Q : Exit → Act → World → Prop} (hgd : o.guard = none) (s x : Operand) (t : TypeId)
    (ho : o.op = .call { callee := .builtin .append, args := #[s, x], argTypes := #[23, 23] }) (B : Nat) (v : Value) (Qs : List Int) (hs : a.eval s = v) (hq : QOwn w B v Qs)
    (ad : Addr) (c1 : Nat) (av : Int) (hx : a.eval x = .slice (some ad) 1 c1) (hc : w.cell? ad = some (.int .i64 av)) (hB : B ≤ w.heap.size) (hl : Qs.length ≤ 1000000)
    (h : ∀ v' w', QOwn w' B v' (Qs ++ [av]) → w.grownBy w' v.ownBlock → wpList Try.prog ops Q rest (a.put o.dst v') w') : wpList Try.prog ops Q (o :: rest) a w := by
  refine wpList_plain hgd fun K hK => ?_
  obtain ⟨v', w', hr, h2, h3, _⟩ := run_append_q hq ad c1 av hc hB hl o.type
  unfold Oper.wp execOp
  simp only [ho, resolve, invoke, builtin, Sem.run_bind, Sem.run_pure, Result.andThen_ok, List.map_toArray, List.map_cons, List.map_nil, hs, hx, hr]
  exact hK _ _ (h v' w' h2 h3)
theorem newcell (w : World) (b i : Nat) (u x : Value) : ((w.setCell ⟨b, i, none⟩ u).alloc (.cells #[x] 3)).cell? ⟨w.heap.size, 0, none⟩ = some x := by
  have hse : (w.setCell ⟨b, i, none⟩ u).heap.size = w.heap.size := by simp [World.setCell]
  have := (World.rowIs_alloc (w.setCell ⟨b, i, none⟩ u) #[x] 3 (fun _ => x) (fun i hi => by
    have : i = 0 := by simpa using hi
    subst this; rfl)).cell (i := 0) (by simp)
  rwa [hse] at this
theorem QOwn.alloc' {w : World} {B ob an : Nat} {v : Value} {Q : List Int} {y x : Int} (h : QOwn w B v Q) (hob : ob < B) : QOwn ((w.setCell ⟨ob, an, none⟩ (.int .i64 y)).alloc (.cells #[.int .i64 x] 3)) B v Q := by
  obtain ⟨g, hh, c, N, f, hv, hB, hr, hN, hl, hf⟩ := h
  exact ⟨g, hh, c, N, f, hv, hB, (hr.setOther (show g ≠ ob by omega) _).alloc _, hN, hl, hf⟩
theorem StC.big {w wr : World} {ob cap n i : Nat} {far : List Int} {v u x : Value} {Q : List Int} (A : StC w ob cap n far v Q wr) : w.heap.size ≤ ((wr.setCell ⟨ob, i, none⟩ u).alloc (.cells #[x] 3)).heap.size := by
  have := A.keep.size
  show _ ≤ (Array.push _ _).size
  rw [Array.size_push]
  have : (wr.setCell ⟨ob, i, none⟩ u).heap.size = wr.heap.size := by simp [World.setCell]
  omega
theorem StC.push {w wi w2 : World} {ob cap n an bn : Nat} {far : List Int} {v v' : Value} {Q : List Int} (A : StC w ob cap n far v Q wi) (hn : n ≤ cap) (ha : an < n) (h0 : far.getD an 0 = 0)
    (hq : QOwn w2 w.heap.size v' (Q ++ [(an : Int)])) (hg : ((wi.setCell ⟨ob, an, none⟩ (.int .i64 (far.getD bn 0 + 1))).alloc (.cells #[.int .i64 (an : Int)] 3)).grownBy w2 v.ownBlock) (hob : ob < w.heap.size) :
    StC w ob cap n (far.set an (far.getD bn 0 + 1)) v' (Q ++ [(an : Int)]) w2 := by
  obtain ⟨g, _, _, _, _, hv, hBg, hrq, _⟩ := A.q
  have hvo : v.ownBlock = some g := by rw [hv]; rfl
  have hgl := hrq.lt
  have hse : (wi.setCell ⟨ob, an, none⟩ (.int .i64 (far.getD bn 0 + 1))).heap.size = wi.heap.size := by simp [World.setCell]
  have g1 : wi.grownBy ((wi.setCell ⟨ob, an, none⟩ (.int .i64 (far.getD bn 0 + 1))).alloc (.cells #[.int .i64 (an : Int)] 3)) (some ob) :=
    grow_trans (grown_set wi ob an _) ⟨rfl, rfl, rfl, by show _ ≤ (Array.push _ _).size; rw [Array.size_push]; omega, fun k hk _ => Below.heap_alloc _ _ k hk⟩
  have hk2 := A.keep.size
  refine ⟨?_, hq, ?_, ⟨hg.os.trans (g1.os.trans A.keep.os), hg.tape.trans (g1.tape.trans A.keep.tape), hg.output.trans (g1.output.trans A.keep.output), Nat.le_trans hk2 (Nat.le_trans g1.size hg.size), fun k hk hne => ?_⟩, ?_⟩
  · have h1 := A.out.set an (far.getD bn 0 + 1) (by rw [A.sane.len]; exact ha)
    obtain ⟨f, hr, hf⟩ := h1
    have h2 : FarIs ((wi.setCell ⟨ob, an, none⟩ (.int .i64 (far.getD bn 0 + 1))).alloc (.cells #[.int .i64 (an : Int)] 3)) ob cap n (far.set an (far.getD bn 0 + 1)) := ⟨f, hr.alloc _, hf⟩
    exact h2.keep hg (by rw [hvo]; intro e; injection e with e; omega)
  · have := A.sane.push (a := (an : Int)) (b := (bn : Int)) ⟨by omega, by omega⟩ h0
    exact this
  · have e1 := hg.block k (Nat.lt_of_lt_of_le hk (Nat.le_trans hk2 g1.size)) (by rw [hvo]; intro e; injection e with e; omega)
    have e2 := g1.block k (by omega) hne
    exact e1.trans (e2.trans (A.keep.block k hk hne))
  · have hz := zeros_set far an (far.getD bn 0 + 1) (by rw [A.sane.len]; exact ha) h0 (by have := A.sane.pos bn; omega)
    have := A.ql
    rw [List.length_append, List.length_singleton]; omega
theorem steps52 (n ob cap cap' s cb bb o : Nat) (back : List (List Int)) (w : World) (hn : n ≤ 100000) (hcap : n ≤ cap) (hs : s < n) (P : Nat → Option Addr) (Cb Bi Oi : Nat → Nat)
    (I : Aside ((∃ f, w.rowIs ob 3 cap f) ∧
      (∀ i, i < n → ∀ w', w.grownBy w' (some ob) → w'.cell? ⟨bb, o + i, none⟩ = some (.slice (P i) (back.getD i []).length (Cb i))) ∧
      (∀ i, i < n → (back.getD i []).length ≠ 0 → P i = some ⟨Bi i, Oi i, none⟩) ∧
      (∀ i, i < n → ∀ j, j < (back.getD i []).length → ∀ w', w.grownBy w' (some ob) → w'.cell? ⟨Bi i, Oi i + j, none⟩ = some (.int .i64 ((back.getD i []).getD j 0))) ∧
      (∀ i, i < n → (back.getD i []).length ≤ 100000 ∧ ∀ a ∈ back.getD i [], 0 ≤ a ∧ a < n))) :
    Calls Try.prog 52 #[.slice (some ⟨bb, o, none⟩) n cb, .int .i64 s, .slice (some ⟨ob, 0, none⟩) n cap'] w fun e w' => e = .returned (.tuple #[]) ∧ w.grownBy w' (some ob) ∧ FarIs w' ob cap n (stepsG back s n) := by
  obtain ⟨f0, hr0⟩ := I.out.1
  have hcl := fun ty => run_clear_slice (P := Try.prog) w 23 3 ty (.int .i64 0) Try.underlying23 (fun w => by kernel_rfl) rfl rfl ob 0 n cap' (by omega) (fun j hj => by rw [hr0.cell (by omega)]; rfl) (fun j _ => hr0.frozen _)
  obtain ⟨f1, hr1, hf1, _, hg1⟩ := cleared (w := w) n 0 hr0
  have c0 : (w.setCells ob 0 (List.replicate n (.int .i64 0))).cell? ⟨ob, s, none⟩ = some (.int .i64 0) := by rw [hr1.cell (by omega), hf1 s (by omega) (by omega)]
  have z0 := hr1.frozen s
  have hF : FarIs (w.setCells ob 0 (List.replicate n (.int .i64 0))) ob cap n (List.replicate n 0) := ⟨f1, hr1, fun i hi => by rw [hf1 i (by omega) (by omega)]; simp [List.getD, hi]⟩
  have K := aside0 (And.intro hF hg1)
  have hs' : (s : Int) < n := by omega
  have hob : Aside (ob < w.heap.size) := hr0.lt
  clear hr0 hr1 hf1 hg1 hF
  go_enter Try.func52, Try.ntmps52
  go_wp2
  have A0 := StC.start hcap hs K.out.1 K.out.2
  have Z0 := (sane_start hs).2
  have AA := aside0 (And.intro A0 Z0)
  clear A0 Z0 K c0 z0 hcl
  go_loopg [6] n (fun g v wr => ∃ far Q, g = zeros far + Q.length ∧ StC w ob cap n far v Q wr ∧ bfs back s (zeros far + Q.length) far Q = stepsG back s n)
  case atStart => exact ⟨(List.replicate n (0 : Int)).set s 1, [(s : Int)], AA.out.2.symm, (by first | exact AA.out.1 | (have hh := AA.out.1; simp only [Go.Sort.size_setCells] at hh; exact hh)), by rw [show [(s : Int)].length = 1 from rfl, AA.out.2]; rfl⟩
  case round =>
    obtain ⟨far, Q, hg, A, hR⟩ := hrel
    cases Q with
    | nil =>
      obtain ⟨g, h, c, _, f, rfl, _⟩ := A.q
      have e : far = stepsG back s n := by rw [← hR]; cases zeros far <;> rfl
      have AE := aside0 (And.intro A e)
      clear A hR hg e
      go_wp2
      go_end0
      exact ⟨rfl, AE.out.1.keep, by have := AE.out.1.out; rwa [AE.out.2] at this⟩
    | cons b Q =>
      obtain ⟨qg, qh, c, _, f, hv, _⟩ := A.q
      have hv : _ = Value.slice (some ⟨qg, qh, none⟩) (Q.length + 1) c := hv
      obtain ⟨hq, hq2, hcb, hc1⟩ := A.q.pop hv
      subst hv
      have hb := A.sane.q0 b List.mem_cons_self
      obtain ⟨bn, rfl⟩ : ∃ bn : Nat, b = bn := ⟨b.toNat, by omega⟩
      have hbn : bn < n := by omega
      have hbn' : (bn : Int) < n := by omega
      have hbk := I.out.2.1 bn hbn _ A.keep
      obtain ⟨L, hL⟩ : ∃ L, L = back.getD bn [] := ⟨_, rfl⟩
      obtain ⟨len, hlen⟩ : ∃ len, len = L.length := ⟨_, rfl⟩
      obtain ⟨pp, hpp⟩ : ∃ pp, pp = P bn := ⟨_, rfl⟩
      have PP : Aside (len ≠ 0 → pp = some ⟨Bi bn, Oi bn, none⟩) := fun h => by rw [hpp]; exact I.out.2.2.1 bn hbn (by rw [← hL, ← hlen]; exact h)
      rw [← hL, ← hlen, ← hpp] at hbk
      clear hpp
      have A1 := A.popped hq
      have A2 := fun e => A.popped (hq2 e)
      have AA2 := aside0 (And.intro (And.intro A1 A2) (And.intro hR (And.intro hg (And.intro hL hlen))))
      have hc1' : (1 : Int) ≤ (c : Int) := by omega
      have hq1 : (1 : Int) ≤ (Q.length : Int) + 1 := by omega
      clear A hR hg hq hq2 A1 A2 hL hlen AA hb
      have A3 : ∃ v, (v = Value.slice (some ⟨qg, if c = 1 then qh else qh + 1, none⟩) Q.length (c - 1)) ∧ StC w ob cap n far v Q wr := by
        by_cases hce : c = 1
        · exact ⟨_, rfl, by rw [if_pos hce, hce]; exact AA2.out.1.2 hce⟩
        · exact ⟨_, rfl, by rw [if_neg hce]; exact AA2.out.1.1⟩
      obtain ⟨v0, hv0, A3⟩ := A3
      have AA3 := aside0 (And.intro A3 AA2.out.2)
      clear AA2 A3
      by_cases hce : c = 1
      · subst hce
        rw [if_pos rfl] at hv0
        subst hv0
        have AA4 : Aside (StC w ob cap n far (.slice (some ⟨qg, qh, none⟩) Q.length 0) Q wr ∧ _) := AA3
        clear AA3
        go_wp2
        go_loopg [29, 6] len (fun g i v wi => ∃ (j : Nat) (far1 Q1 : List Int), j ≤ len ∧ g = len - j ∧ i = .int .i64 (j : Nat) ∧ StC w ob cap n far1 v Q1 wi ∧ bfsIn s bn (L.drop j) far1 Q1 = bfsIn s bn L far Q)
        case atStart => exact ⟨0, far, Q, Nat.zero_le _, rfl, rfl, AA4.out.1, rfl⟩
        case round =>
          obtain ⟨j, far1, Q1, hj, rfl, rfl, A, hR⟩ := hrel
          obtain ⟨hR0, hg0, hL, hlen⟩ := AA4.out.2
          by_cases hlt : j < len
          · have hlt' : (j : Int) < len := by omega
            have hjL : j < L.length := by omega
            obtain rfl := PP.out (by omega)
            have hce1 := I.out.2.2.2.1 bn hbn j (by rw [← hL]; omega) _ A.keep
            have hall := I.out.2.2.2.2 bn hbn
            rw [← hL] at hce1 hall
            have hmem : L[j] ∈ L := List.getElem_mem hjL
            obtain ⟨ha0, han⟩ := hall.2 _ hmem
            obtain ⟨an, hane⟩ : ∃ an : Nat, (an : Int) = L[j] := ⟨L[j].toNat, by omega⟩
            have hgd : L.getD j 0 = (an : Int) := by rw [hane]; simp [List.getD, hjL]
            rw [hgd] at hce1
            rw [← hane] at han
            have han' : an < n := by omega
            have hdrop : L.drop j = (an : Int) :: L.drop (j + 1) := by rw [hane]; exact List.drop_eq_getElem_cons hjL
            rw [hdrop, bfsIn] at hR
            have hll := hall.1
            have wj : IntKind.i64.wrap ((j : Int) + 1) = ((j + 1 : Nat) : Int) := by rw [Go.Abs.wrap_in (by omega) (by omega)]; omega
            have hQ1 : Q1.length ≤ 200000 := by have := A.ql; omega
            have hy0 := A.sane.pos bn
            have hy1 := A.sane.top bn
            have hz := zeros_le far1
            by_cases hgt : (an : Int) > s
            · have fa := A.out.cell hcap han'
              obtain ⟨x, hx⟩ : ∃ x, x = far1.getD an 0 := ⟨_, rfl⟩
              have hgx : getI far1 (an : Int) = x := by rw [hx]; rfl
              rw [hgx] at hR
              rw [← hx] at fa
              by_cases hx0 : x = 0
              · subst hx0
                rw [if_pos ⟨hgt, rfl⟩] at hR
                have fb := A.out.cell hcap hbn
                have fz := A.out.frozen an
                obtain ⟨y, hy⟩ : ∃ y, y = far1.getD bn 0 := ⟨_, rfl⟩
                have hgy : getI far1 (bn : Int) = y := by rw [hy]; rfl
                rw [hgy] at hR
                rw [← hy] at fb hy0 hy1
                have wy : IntKind.i64.wrap (y + 1) = y + 1 := Go.Abs.wrap_in (by omega) (by omega)
                have hqa := A.q.alloc' (ob := ob) (an := an) (y := y + 1) (x := (an : Int)) hob.out
                have M := aside0 (And.intro A (And.intro hR (And.intro hx.symm hy)))
                have hQ2 : Aside (Q1.length ≤ 1000000) := by exact Nat.le_trans hQ1 (by omega)
                have hsz : Aside (w.heap.size ≤ ((wr.setCell ⟨ob, an, none⟩ (.int .i64 (y + 1))).alloc (.cells #[.int .i64 (an : Int)] 3)).heap.size) := A.big
                have hcn : ((wr.setCell ⟨ob, an, none⟩ (.int .i64 (y + 1))).alloc (.cells #[.int .i64 (an : Int)] 3)).cell? ⟨wr.heap.size, 0, none⟩ = some (.int .i64 (an : Int)) := newcell _ _ _ _ _
                have QQ := aside0 (And.intro hqa hcn)
                clear A hR hx hy hgx hgy hmem hane hall hdrop hQ1 hy0 hy1 hz hgd ha0 hqa hcn hL hlen hR0 hg0 hjL
                go_wp2_with (at_builtin; refine wpList_append_q rfl _ _ 23 rfl w.heap.size _ Q1 rfl QQ.out.1 ⟨wr.heap.size, 0, none⟩ 1 an rfl QQ.out.2 hsz.out hQ2.out ?_; intro v' w2 hq2 hg2)
                have M2 := aside0 (StC.push M.out.1 hcap han' M.out.2.2.1 (bn := bn) hq2 (by rw [← M.out.2.2.2]; exact hg2) hob.out)
                clear hq2 hg2 fa fb fz QQ
                go_roundg (len - (j + 1))
                case rel => exact ⟨j + 1, _, _, hlt, rfl, by go_num, M2.out, by have := M.out.2.1; rw [← M.out.2.2.2]; exact this⟩
                case measure => omega
              · rw [if_neg (fun h => hx0 h.2)] at hR
                have M := aside0 (And.intro A hR)
                clear A hR hx hgx hmem hane hall hdrop hQ1 hy0 hy1 hz hgd ha0 hL hlen hR0 hg0 hjL
                go_wp2
                go_roundg (len - (j + 1))
                case rel => exact ⟨j + 1, _, _, hlt, rfl, by go_num, M.out.1, M.out.2⟩
                case measure => omega
            · rw [if_neg (fun h => hgt h.1)] at hR
              have M := aside0 (And.intro A hR)
              clear A hR hmem hane hall hdrop hQ1 hy0 hy1 hz hgd ha0 hL hlen hR0 hg0 hjL
              go_wp2
              go_roundg (len - (j + 1))
              case rel => exact ⟨j + 1, _, _, hlt, rfl, by go_num, M.out.1, M.out.2⟩
              case measure => omega
          · obtain rfl : j = len := by omega
            rw [hlen, List.drop_length, bfsIn] at hR
            obtain ⟨e1, e2⟩ : far1 = (bfsIn s bn L far Q).1 ∧ Q1 = (bfsIn s bn L far Q).2 := by rw [← hR]; exact ⟨rfl, rfl⟩
            have hb2 := bfsIn_sane s bn L far Q (by rw [hL]; exact (I.out.2.2.2.2 bn hbn).2) AA4.out.1.sane
            have hR1 : bfs back s (zeros far1 + Q1.length) far1 Q1 = stepsG back s n := by
              rw [← hR0]
              have e3 : zeros far + ((bn : Int) :: Q).length = (zeros far1 + Q1.length) + 1 := by
                rw [List.length_cons, e1, e2]; have := hb2.2; omega
              rw [e3, bfs, e1, e2, hL]; rfl
            have hgk : zeros far1 + Q1.length + 1 = gk := by rw [hg0, List.length_cons, e1, e2]; have := hb2.2; omega
            have M := aside0 (And.intro A (And.intro hR1 hgk))
            clear A hR hR0 hg0 hL hlen e1 e2 hb2 hR1 hgk
            go_wp2
            go_roundg (zeros far1 + Q1.length)
            case rel => exact ⟨far1, Q1, rfl, M.out.1, M.out.2.1⟩
            case measure => have := M.out.2.2; omega
      · rw [if_neg hce] at hv0
        subst hv0
        have AA4 := AA3
        clear AA3
        go_wp2
        go_loopg [29, 6] len (fun g i v wi => ∃ (j : Nat) (far1 Q1 : List Int), j ≤ len ∧ g = len - j ∧ i = .int .i64 (j : Nat) ∧ StC w ob cap n far1 v Q1 wi ∧ bfsIn s bn (L.drop j) far1 Q1 = bfsIn s bn L far Q)
        case atStart => exact ⟨0, far, Q, Nat.zero_le _, rfl, rfl, AA4.out.1, rfl⟩
        case round =>
          obtain ⟨j, far1, Q1, hj, rfl, rfl, A, hR⟩ := hrel
          obtain ⟨hR0, hg0, hL, hlen⟩ := AA4.out.2
          by_cases hlt : j < len
          · have hlt' : (j : Int) < len := by omega
            have hjL : j < L.length := by omega
            obtain rfl := PP.out (by omega)
            have hce1 := I.out.2.2.2.1 bn hbn j (by rw [← hL]; omega) _ A.keep
            have hall := I.out.2.2.2.2 bn hbn
            rw [← hL] at hce1 hall
            have hmem : L[j] ∈ L := List.getElem_mem hjL
            obtain ⟨ha0, han⟩ := hall.2 _ hmem
            obtain ⟨an, hane⟩ : ∃ an : Nat, (an : Int) = L[j] := ⟨L[j].toNat, by omega⟩
            have hgd : L.getD j 0 = (an : Int) := by rw [hane]; simp [List.getD, hjL]
            rw [hgd] at hce1
            rw [← hane] at han
            have han' : an < n := by omega
            have hdrop : L.drop j = (an : Int) :: L.drop (j + 1) := by rw [hane]; exact List.drop_eq_getElem_cons hjL
            rw [hdrop, bfsIn] at hR
            have hll := hall.1
            have wj : IntKind.i64.wrap ((j : Int) + 1) = ((j + 1 : Nat) : Int) := by rw [Go.Abs.wrap_in (by omega) (by omega)]; omega
            have hQ1 : Q1.length ≤ 200000 := by have := A.ql; omega
            have hy0 := A.sane.pos bn
            have hy1 := A.sane.top bn
            have hz := zeros_le far1
            by_cases hgt : (an : Int) > s
            · have fa := A.out.cell hcap han'
              obtain ⟨x, hx⟩ : ∃ x, x = far1.getD an 0 := ⟨_, rfl⟩
              have hgx : getI far1 (an : Int) = x := by rw [hx]; rfl
              rw [hgx] at hR
              rw [← hx] at fa
              by_cases hx0 : x = 0
              · subst hx0
                rw [if_pos ⟨hgt, rfl⟩] at hR
                have fb := A.out.cell hcap hbn
                have fz := A.out.frozen an
                obtain ⟨y, hy⟩ : ∃ y, y = far1.getD bn 0 := ⟨_, rfl⟩
                have hgy : getI far1 (bn : Int) = y := by rw [hy]; rfl
                rw [hgy] at hR
                rw [← hy] at fb hy0 hy1
                have wy : IntKind.i64.wrap (y + 1) = y + 1 := Go.Abs.wrap_in (by omega) (by omega)
                have hqa := A.q.alloc' (ob := ob) (an := an) (y := y + 1) (x := (an : Int)) hob.out
                have M := aside0 (And.intro A (And.intro hR (And.intro hx.symm hy)))
                have hQ2 : Aside (Q1.length ≤ 1000000) := by exact Nat.le_trans hQ1 (by omega)
                have hsz : Aside (w.heap.size ≤ ((wr.setCell ⟨ob, an, none⟩ (.int .i64 (y + 1))).alloc (.cells #[.int .i64 (an : Int)] 3)).heap.size) := A.big
                have hcn : ((wr.setCell ⟨ob, an, none⟩ (.int .i64 (y + 1))).alloc (.cells #[.int .i64 (an : Int)] 3)).cell? ⟨wr.heap.size, 0, none⟩ = some (.int .i64 (an : Int)) := newcell _ _ _ _ _
                have QQ := aside0 (And.intro hqa hcn)
                clear A hR hx hy hgx hgy hmem hane hall hdrop hQ1 hy0 hy1 hz hgd ha0 hqa hcn hL hlen hR0 hg0 hjL
                go_wp2_with (at_builtin; refine wpList_append_q rfl _ _ 23 rfl w.heap.size _ Q1 rfl QQ.out.1 ⟨wr.heap.size, 0, none⟩ 1 an rfl QQ.out.2 hsz.out hQ2.out ?_; intro v' w2 hq2 hg2)
                have M2 := aside0 (StC.push M.out.1 hcap han' M.out.2.2.1 (bn := bn) hq2 (by rw [← M.out.2.2.2]; exact hg2) hob.out)
                clear hq2 hg2 fa fb fz QQ
                go_roundg (len - (j + 1))
                case rel => exact ⟨j + 1, _, _, hlt, rfl, by go_num, M2.out, by have := M.out.2.1; rw [← M.out.2.2.2]; exact this⟩
                case measure => omega
              · rw [if_neg (fun h => hx0 h.2)] at hR
                have M := aside0 (And.intro A hR)
                clear A hR hx hgx hmem hane hall hdrop hQ1 hy0 hy1 hz hgd ha0 hL hlen hR0 hg0 hjL
                go_wp2
                go_roundg (len - (j + 1))
                case rel => exact ⟨j + 1, _, _, hlt, rfl, by go_num, M.out.1, M.out.2⟩
                case measure => omega
            · rw [if_neg (fun h => hgt h.1)] at hR
              have M := aside0 (And.intro A hR)
              clear A hR hmem hane hall hdrop hQ1 hy0 hy1 hz hgd ha0 hL hlen hR0 hg0 hjL
              go_wp2
              go_roundg (len - (j + 1))
              case rel => exact ⟨j + 1, _, _, hlt, rfl, by go_num, M.out.1, M.out.2⟩
              case measure => omega
          · obtain rfl : j = len := by omega
            rw [hlen, List.drop_length, bfsIn] at hR
            obtain ⟨e1, e2⟩ : far1 = (bfsIn s bn L far Q).1 ∧ Q1 = (bfsIn s bn L far Q).2 := by rw [← hR]; exact ⟨rfl, rfl⟩
            have hb2 := bfsIn_sane s bn L far Q (by rw [hL]; exact (I.out.2.2.2.2 bn hbn).2) AA4.out.1.sane
            have hR1 : bfs back s (zeros far1 + Q1.length) far1 Q1 = stepsG back s n := by
              rw [← hR0]
              have e3 : zeros far + ((bn : Int) :: Q).length = (zeros far1 + Q1.length) + 1 := by
                rw [List.length_cons, e1, e2]; have := hb2.2; omega
              rw [e3, bfs, e1, e2, hL]; rfl
            have hgk : zeros far1 + Q1.length + 1 = gk := by rw [hg0, List.length_cons, e1, e2]; have := hb2.2; omega
            have M := aside0 (And.intro A (And.intro hR1 hgk))
            clear A hR hR0 hg0 hL hlen e1 e2 hb2 hR1 hgk
            go_wp2
            go_roundg (zeros far1 + Q1.length)
            case rel => exact ⟨far1, Q1, rfl, M.out.1, M.out.2.1⟩
            case measure => have := M.out.2.2; omega
end Go.Proofs


set_option maxRecDepth 100000
set_option maxHeartbeats 4000000
namespace Go.Abs
open Go.Proofs Go.RowKit
theorem ints_slice {l : List Int} {w : World} {Z : Bk → Prop} {v : Value} (hv : PRep w Z (lstC 1 (ints l)) v) :
    ∃ q : Option Addr × Nat × Nat × Nat, v = .slice q.1 l.length q.2.1 ∧ (l.length ≠ 0 → q.1 = some ⟨q.2.2.1, q.2.2.2, none⟩ ∧ Z (1, q.2.2.1) ∧ ∀ j, j < l.length → w.cell? ⟨q.2.2.1, q.2.2.2 + j, none⟩ = some (.int .i64 (l.getD j 0))) := by
  unfold lstC at hv
  by_cases h0 : l = []
  · subst h0
    have h' : PRep w Z (.list 0 none []) v := hv
    generalize hc : C.list 0 none [] = c at h'
    cases h' with
    | nil => exact ⟨(none, 0, 0, 0), rfl, fun hk => absurd rfl hk⟩
    | emp _ _ a => exact ⟨(some a, 0, 0, 0), rfl, fun hk => absurd rfl hk⟩
    | list b o cap sz nl rws val =>
      injection hc with _ _ hr
      subst hr
      exact ⟨(some ⟨b, o, none⟩, cap, 0, 0), rfl, fun hk => absurd rfl hk⟩
    | _ => cases hc
  · have hne : ints l ≠ [] := by simpa [ints] using h0
    have e : (if (ints l).isEmpty = true then 0 else 1) = 1 := by
      rw [ints_isEmpty]; cases l with
      | nil => exact absurd rfl h0
      | cons => rfl
    rw [e] at hv
    generalize hc : C.list 1 none (ints l) = c at hv
    cases hv with
    | nil => injection hc with _ _ hr; exact absurd hr hne
    | emp => injection hc with _ _ hr; exact absurd hr hne
    | list b o cap sz nl rows val h1 h2 h3 h4 h5 h6 h7 =>
      injection hc with hs _ hr
      subst hs hr
      refine ⟨(some ⟨b, o, none⟩, cap, b, o), by rw [ints_len], fun _ => ⟨rfl, h4 hne, fun j hj => ?_⟩⟩
      have hr : (ints l)[j]? = some [.int .i64 (l.getD j 0)] := by simp [ints, hj, List.getD]
      have h8 := h6 j 0 _ _ hr rfl
      have h9 := prep_int (h7 j 0 _ _ hr rfl)
      rw [h9] at h8
      simpa using h8
    | _ => cases hc
theorem ill_slice {ls : List (List Int)} {w : World} {Z : Bk → Prop} {v : Value} (hv : PRep w Z (lstC 1 (ill ls)) v) (h0 : ls.length ≠ 0) :
    ∃ b o cap, v = .slice (some ⟨b, o, none⟩) ls.length cap ∧ Z (1, b) ∧ ∃ V : Nat → Value, ∀ i, i < ls.length → w.cell? ⟨b, o + i, none⟩ = some (V i) ∧ PRep w Z (lstC 1 (ints (ls.getD i []))) (V i) := by
  unfold lstC at hv
  have hne : ill ls ≠ [] := by intro h; exact h0 (by simpa [ill] using h)
  have e : (if (ill ls).isEmpty = true then 0 else 1) = 1 := by
    cases hh : ill ls with
    | nil => exact absurd hh hne
    | cons a r => rfl
  rw [e] at hv
  generalize hc : C.list 1 none (ill ls) = c at hv
  cases hv with
  | nil => injection hc with _ _ hr; exact absurd hr hne
  | emp => injection hc with _ _ hr; exact absurd hr hne
  | list b o cap sz nl rows val h1 h2 h3 h4 h5 h6 h7 =>
    injection hc with hs _ hr
    subst hs hr
    refine ⟨b, o, cap, by rw [ill_len], h4 hne, fun k => val k 0, fun k hk => ?_⟩
    have hr : (ill ls)[k]? = some [lstC 1 (ints (ls.getD k []))] := by simp [ill, encIs, hk, List.getD]
    refine ⟨?_, h7 k 0 _ _ hr rfl⟩
    have := h6 k 0 _ _ hr rfl
    simpa using this
  | _ => cases hc
theorem vs_three {vs : Array Value} (h : vs.size = 3) : ∃ a b c, vs = #[a, b, c] := by
  obtain ⟨l⟩ := vs
  match l, h with
  | [a, b, c], _ => exact ⟨a, b, c, rfl⟩
theorem g52 (n s τ : Nat) (back : List (List Int)) (far : List Int) (hn : n ≤ 100000) (hs : s < n) (hb : back.length = n) (hf : far.length = n) (hbk : ∀ l ∈ back, l.length ≤ 100000 ∧ ∀ a ∈ l, 0 ≤ a ∧ a < n) :
    SpecS Try.prog 52 [lst 1 (ill back), .int .i64 s, .k (.own τ)] (oneI 3 τ far) [τ] (fun r o' => r = .tup [] ∧ o' = oneI 3 τ (stepsG back s n)) := by
  refine ⟨callable_at (by kernel_rfl), fun w0 Z0 κ w vs hsz hi => ?_⟩
  obtain ⟨v0, v1, v2, rfl⟩ := vs_three hsz
  have ho : (oneI 3 τ far) τ = some (.arr 3 1 none (intRows far)) := by simp [oneI]
  have hno : ∀ s, s ≠ τ → oneI 3 τ far s = none := fun s hs => by simp [oneI, hs]
  have hob := hi.objs τ _ ho
  have t0 : VRep w (Zof w0 Z0 κ (oneI 3 τ far) w) κ (oneI 3 τ far) (lst 1 (ill back)) v0 := by simpa using hi.tmps 0
  have t1 : VRep w (Zof w0 Z0 κ (oneI 3 τ far) w) κ (oneI 3 τ far) (.int .i64 s) v1 := by simpa using hi.tmps 1
  have t2 : VRep w (Zof w0 Z0 κ (oneI 3 τ far) w) κ (oneI 3 τ far) (.k (.own τ)) v2 := by simpa using hi.tmps 2
  have e1 : v1 = .int .i64 s := prep_int t1.2
  subst e1
  rcases hob with ⟨_, hrows, _⟩ | ⟨b, cur, cap, hκ, hheap, h0, hcs, hlen, hcap, _, hall, hrr⟩
  · have : far = [] := by simpa [intRows] using hrows
    rw [this] at hf; simp at hf; omega
  obtain ⟨cap', hv, hcap'⟩ : ∃ cap', v2 = .slice (some ⟨b, 0, none⟩) n cap' ∧ cur.size = cap' * 1 := by
    rcases t2.2 3 1 none _ ho with ⟨hnn, _⟩ | ⟨b', cur', cap', hb', hh, hc2, hv⟩
    · rw [hκ] at hnn; cases hnn
    · rw [hκ] at hb'; cases hb'
      rw [hheap] at hh; cases hh
      exact ⟨cap', by rw [← hf]; simpa [intRows] using hv, hc2⟩
  subst hv
  have hlt : b < w.heap.size := heap_lt hheap
  obtain ⟨bb, o, cb, hv0, hZb, V, hV⟩ := ill_slice t0.2 (by omega)
  rw [hb] at hv0 hV
  subst hv0
  have hZne : ∀ x : Bk, Zof w0 Z0 κ (oneI 3 τ far) w x → x.2 ≠ b ∧ x.2 < w.heap.size := fun x hx => ⟨fun e => hx.2.2 τ (by rw [ho]; simp) (by rw [hκ, e]), hx.2.1⟩
  have hkeep : ∀ (x : Nat) (w' : World), x ≠ b → x < w.heap.size → w.grownBy w' (some b) → ∀ off, w'.cell? ⟨x, off, none⟩ = w.cell? ⟨x, off, none⟩ := fun x w' h1 h2 hg off =>
    World.cell?_of_block (w := w) (hg.block x h2 (fun e => h1 (by cases e; rfl)))
  obtain ⟨Q, hQ⟩ := Classical.skolem.1 (fun i : Nat => show ∃ q : Option Addr × Nat × Nat × Nat, i < n → V i = .slice q.1 (back.getD i []).length q.2.1 ∧ ((back.getD i []).length ≠ 0 → q.1 = some ⟨q.2.2.1, q.2.2.2, none⟩ ∧ Zof w0 Z0 κ (oneI 3 τ far) w (1, q.2.2.1) ∧ ∀ j, j < (back.getD i []).length → w.cell? ⟨q.2.2.1, q.2.2.2 + j, none⟩ = some (.int .i64 ((back.getD i []).getD j 0))) from by
    by_cases h : i < n
    · obtain ⟨q, hq⟩ := ints_slice (hV i h).2
      exact ⟨q, fun _ => hq⟩
    · exact ⟨(none, 0, 0, 0), fun h2 => absurd h2 h⟩)
  obtain ⟨z1, z2⟩ := hZne _ hZb
  have hfl : far.length ≤ cur.size := by
    have : (intRows far).length = far.length := by simp [intRows]
    rw [this] at hlen; omega
  refine (steps52 n b cur.size cap' s cb bb o back w hn (by omega) hs (fun i => (Q i).1) (fun i => (Q i).2.1) (fun i => (Q i).2.2.1) (fun i => (Q i).2.2.2)
    ⟨⟨fun i => cur.getD i (.bool true), cur, hheap, rfl, fun i hi => by simp [Array.getD, hi]⟩, fun i hi w' hg => ?_, fun i hi hl => ((hQ i hi).2 hl).1, fun i hi j hj w' hg => ?_, fun i hi => ?_⟩).mono ?_
  · rw [hkeep bb w' z1 z2 hg, (hV i hi).1, (hQ i hi).1]
  · obtain ⟨_, q2, q3⟩ := (hQ i hi).2 (by omega)
    obtain ⟨y1, y2⟩ := hZne _ q2
    rw [hkeep _ w' y1 y2 hg]
    exact q3 j hj
  · have : back.getD i [] ∈ back := by simp [List.getD, show i < back.length by omega]
    exact hbk _ this
  · rintro ex w' ⟨rfl, ⟨g1, g2, g3, g4, g5⟩, f, ⟨cur2, hh2, hsz2, hf2⟩, hff⟩
    have hsl : (stepsG back s n).length = n := by
      have hst := (sane_start hs).1
      have : ∀ (k : Nat) (far q : List Int), far.length = n → (∀ a ∈ q, True) → (bfs back s k far q).length = n := by
        intro k
        induction k with
        | zero => intro far q h _; exact h
        | succ k ih =>
          intro far q h _
          cases q with
          | nil => exact h
          | cons b q =>
            refine ih _ _ ?_ (fun _ _ => trivial)
            have : ∀ (l far q : List Int), (bfsIn s b l far q).1.length = far.length := by
              intro l
              induction l with
              | nil => intro far q; rfl
              | cons a l ih2 => intro far q; rw [bfsIn]; split; rw [ih2, List.length_set]; exact ih2 _ _
            rw [this, h]
      exact this n _ _ (by simp) (fun _ _ => trivial)
    have htk : cur2.toList.take (stepsG back s n).length = (stepsG back s n).map (Value.int .i64) := by
      rw [hsl]
      apply List.ext_getElem?
      intro i
      by_cases h : i < n
      · rw [List.getElem?_take_of_lt h, Array.getElem?_toList, hf2 i (by omega), hff i h, List.getElem?_map]
        rw [List.getD_eq_getElem?_getD, List.getElem?_eq_getElem (by omega)]; rfl
      · rw [List.getElem?_take_eq_none (by omega), List.getElem?_eq_none (by simp; omega)]
    have hll : (intRows far).length = n := by unfold intRows; rw [List.length_map]; exact hf
    have hll2 : (intRows (stepsG back s n)).length = n := by unfold intRows; rw [List.length_map]; exact hsl
    have hI := hi.moveG (τ := τ) (d := 0) (ob := .arr 3 1 none (intRows (stepsG back s n))) (v := .tup []) (u := .tuple #[]) (bo := some b) (w' := w') ho (by simp) g1 g2 g3 g4
      (fun k hk hne => g5 k hk (by rw [hκ] at hne; exact fun h => hne (by cases h; rfl))) (fun b' hb => .inr (by cases hb; exact hκ))
      (fun Z _ => .inr ⟨b, cur2, cap, by simp, hh2, by omega, by rw [hsz2]; exact hcs, by rw [hll2]; omega, hcap, by simp, rows_len _, rep_of_cells htk⟩) ⟨#[], rfl, rfl, trivial⟩
    have hO := hI.only (T := [τ]) (r := .tup []) (v := .tuple #[]) ⟨#[], rfl, rfl, trivial⟩ rfl (fun t ht ob hob => by
      simp only [List.mem_singleton] at ht
      subst ht
      simp [St.put, St.setO] at hob
      subst hob; rfl)
    have htab : tabIn [τ] (((({ t := fun s_1 => [lst 1 (ill back), .int .i64 s, .k (.own τ)].getD s_1 .any, o := oneI 3 τ far } : St).scrub τ).setO τ (.arr 3 1 none (intRows (stepsG back s n)))).put 0 (.tup [])).o = oneI 3 τ (stepsG back s n) := by
      funext t
      unfold tabIn oneI
      by_cases ht : t = τ
      · subst ht; simp [St.put, St.setO]
      · simp [ht]
    rw [htab] at hO
    refine ⟨.tuple #[], _, .tup [], _, rfl, ⟨rfl, rfl⟩, ?_, hO⟩
    intro t ht
    simp only [List.mem_singleton] at ht
    subst ht
    refine ⟨by simp [oneI, Like, hll, hll2], by simp [hκ], fun _ b' hb' cur0 e0 f0 hc0 => ?_⟩
    rw [hκ] at hb'; cases hb'
    rw [hheap] at hc0; cases hc0
    exact ⟨_, hh2, hsz2⟩
end Go.Abs


set_option maxRecDepth 100000
set_option maxHeartbeats 4000000
namespace Go.Abs
open Go.Proofs Go.RowKit
theorem call_steps {P : Program} {f e d τ : Nat} {args vs : List V} {xs : List AX} {K : KK} {ts : TS} {os : OS} {X : Prop} {nl : Option Bool} (l l' : List Int) (hs : SpecS P f args (oneI e τ l) [τ] (fun r o' => r = .tup [] ∧ o' = oneI e τ l')) (hv : vs.map V.nrm = args) (hw : vs.all (V.within [τ]) = true)
    (ho : lookO τ os = some (.arr e 1 nl (ints l))) (hk : K (insT d (.tup []) ts) (insO τ (.arr e 1 none (ints l')) os)) : X ∨ callSF P f vs xs K (some d) ts os := by
  refine .inr (.inl ?_)
  refine ⟨[τ], [τ], [], fun r o' => r = .tup [] ∧ o' = oneI e τ l', by simpa using hw, rfl, ?_, fun s hs => .inl hs, ?_, ?_⟩
  · intro s hs ob hob
    simp only [List.mem_singleton] at hs
    subst hs
    rw [ho] at hob; cases hob; rfl
  · have ho' : lookO τ os = some (.arr e 1 nl (intRows l)) := ho
    rw [tab_one ho']
    have e2 : (vs ++ List.map capV []).map V.nrm = args := by simpa using hv
    rw [e2]; exact hs
  · rintro r o' ⟨rfl, rfl⟩
    refine ⟨fun s hs => by simp at hs; simp [oneI, hs], rfl, within_one, ?_⟩
    show onS K (((mkS ts os).back [τ] [] (oneI e τ l')).put d (.tup []))
    rw [back_sort, mkS_put]; exact onS_mk hk
def edgeOk (n : Int) (p : Int × Int) : Bool := decide (0 ≤ p.1 ∧ p.1 < n ∧ 0 ≤ p.2 ∧ p.2 < n)
def rightG (n : Int) (l : List (Int × Int)) : Bool := decide (0 ≤ n ∧ n ≤ 300 ∧ (l.length : Int) ≤ 2000) && l.all (edgeOk n)
theorem rightG_yes {n : Int} {l : List (Int × Int)} (h : rightG n l = true) : (0 ≤ n ∧ n ≤ 300 ∧ (l.length : Int) ≤ 2000) ∧ ∀ p ∈ l, 0 ≤ p.1 ∧ p.1 < n ∧ 0 ≤ p.2 ∧ p.2 < n := by
  unfold rightG at h
  simp only [Bool.and_eq_true, decide_eq_true_eq, List.all_eq_true] at h
  exact ⟨h.1, fun p hp => by have := h.2 p hp; simpa [edgeOk] using this⟩
theorem right_no {n : Int} {l : List (Int × Int)} {p : Int × Int} (hp : p ∈ l) (h : ¬ (0 ≤ p.1 ∧ p.1 < n ∧ 0 ≤ p.2 ∧ p.2 < n)) : rightG n l = false := by
  unfold rightG
  rw [Bool.and_eq_false_iff]
  right
  rw [List.all_eq_false]
  exact ⟨p, hp, by simp [edgeOk]; omega⟩
theorem g50 (n : Int) (l : List (Int × Int)) : Spec Try.prog 50 [.int .i64 n, lst 2 (eds l)] (fun r => r = .bool (rightG n l)) := by
  refine Spec.of_awlS hf50 okf50 (by simp) fun S hS => ?_
  by_cases b1 : n < 0
  · simp only [b1, eds_len, normRows_eds, Qs, if_true, List.nodup_nil, Nat.reduceAdd, Nat.reduceBEq, uu f50.eq_1, vv f50r22.eq_1, uu f50b23.eq_1, uu f50b24.eq_1, vv f50r25.eq_1, uu f50b26.eq_1, uu f50b27.eq_1, vv f50r28.eq_1, uu f50b29.eq_1]
    refine fin hS ?_
    unfold rightG; rw [decide_eq_false (by omega)]; rfl
  by_cases b2 : n > 300
  · simp only [b1, b2, eds_len, normRows_eds, Qs, if_true, if_false, List.nodup_nil, Nat.reduceAdd, Nat.reduceBEq, uu f50.eq_1, vv f50r22.eq_1, uu f50b23.eq_1, uu f50b24.eq_1, vv f50r25.eq_1, uu f50b26.eq_1, uu f50b27.eq_1, vv f50r28.eq_1, uu f50b29.eq_1]
    refine fin hS ?_
    unfold rightG; rw [decide_eq_false (by omega)]; rfl
  by_cases b3 : (l.length : Int) > 2000
  · simp only [b1, b2, b3, eds_len, normRows_eds, Qs, if_true, if_false, List.nodup_nil, Nat.reduceAdd, Nat.reduceBEq, uu f50.eq_1, vv f50r22.eq_1, uu f50b23.eq_1, uu f50b24.eq_1, vv f50r25.eq_1, uu f50b26.eq_1, uu f50b27.eq_1, vv f50r28.eq_1, uu f50b29.eq_1]
    refine fin hS ?_
    unfold rightG; rw [decide_eq_false (by omega)]; rfl
  simp only [b1, b2, b3, eds_len, normRows_eds, Qs, if_true, if_false, Nat.reduceAdd, Nat.reduceBEq, uu f50.eq_1, uu f50b18.eq_1, vv f50r19.eq_1, uu f50b20.eq_1, uu f50b21.eq_1, uu f50b24.eq_1, vv f50r25.eq_1, uu f50b26.eq_1, uu f50b27.eq_1, vv f50r28.eq_1, uu f50b29.eq_1]
  rw [uu f50l17.eq_1]
  refine awl_loop (fun i : Nat => [(0, .int .i64 n), (18, lst 2 (eds l)), (19, .int .i64 l.length), (20, .int .i64 i)]) (fun _ => []) (fun i => i ≤ l.length ∧ (l.take i).all (edgeOk n) = true) (fun i => l.length - i) 0 rfl rfl ⟨Nat.zero_le _, rfl⟩ ?_
  rintro i ⟨hi, hd⟩
  by_cases hlt : i < l.length
  · have c1 : (i : Int) < l.length := by omega
    have c4 : IntKind.i64.wrap ((i : Int) + 1) = (i : Int) + 1 := wrap_in (by omega) (by omega)
    have z0 : (0 : Int).toNat = 0 := rfl
    have z1 : (1 : Int).toNat = 1 := rfl
    have hm := List.getElem_mem hlt
    by_cases h1 : l[i].1 < 0
    · simp only [c1, c4, h1, eds_len, eds_at hlt, normRows_eds, Qs, if_true, if_false, List.append_nil, List.nodup_nil, Nat.reduceAdd, Nat.reduceLeDiff, Nat.reduceBEq, Int.reduceLT, Int.reduceLE, vv f50r3.eq_1, vv f50r4.eq_1, uu f50b5.eq_1, uu f50b6.eq_1, vv f50r7.eq_1, uu f50b8.eq_1, vv f50r9.eq_1, uu f50b10.eq_1, uu f50b11.eq_1, uu f50b12.eq_1, uu f50b13.eq_1, uu f50b14.eq_1, vv f50r15.eq_1, uu f50b16.eq_1]
      exact fin hS (by rw [right_no hm (by omega)])
    by_cases h2 : l[i].1 ≥ n
    · simp only [c1, c4, h1, h2, eds_len, eds_at hlt, normRows_eds, Qs, if_true, if_false, List.append_nil, List.nodup_nil, Nat.reduceAdd, Nat.reduceLeDiff, Nat.reduceBEq, Int.reduceLT, Int.reduceLE, vv f50r3.eq_1, vv f50r4.eq_1, uu f50b5.eq_1, uu f50b6.eq_1, vv f50r7.eq_1, uu f50b8.eq_1, vv f50r9.eq_1, uu f50b10.eq_1, uu f50b11.eq_1, uu f50b12.eq_1, uu f50b13.eq_1, uu f50b14.eq_1, vv f50r15.eq_1, uu f50b16.eq_1]
      exact fin hS (by rw [right_no hm (by omega)])
    by_cases h3 : l[i].2 < 0
    · simp only [c1, c4, h1, h2, h3, eds_len, eds_at hlt, normRows_eds, Qs, if_true, if_false, List.append_nil, List.nodup_nil, Nat.reduceAdd, Nat.reduceLeDiff, Nat.reduceBEq, Int.reduceLT, Int.reduceLE, Int.reduceToNat, vv f50r3.eq_1, vv f50r4.eq_1, uu f50b5.eq_1, uu f50b6.eq_1, vv f50r7.eq_1, uu f50b8.eq_1, vv f50r9.eq_1, uu f50b10.eq_1, uu f50b11.eq_1, uu f50b12.eq_1, uu f50b13.eq_1, uu f50b14.eq_1, vv f50r15.eq_1, uu f50b16.eq_1]
      exact fin hS (by rw [right_no hm (by omega)])
    by_cases h4 : l[i].2 ≥ n
    · simp only [c1, c4, h1, h2, h3, h4, eds_len, eds_at hlt, normRows_eds, Qs, if_true, if_false, List.append_nil, List.nodup_nil, Nat.reduceAdd, Nat.reduceLeDiff, Nat.reduceBEq, Int.reduceLT, Int.reduceLE, Int.reduceToNat, vv f50r3.eq_1, vv f50r4.eq_1, uu f50b5.eq_1, uu f50b6.eq_1, vv f50r7.eq_1, uu f50b8.eq_1, vv f50r9.eq_1, uu f50b10.eq_1, uu f50b11.eq_1, uu f50b12.eq_1, uu f50b13.eq_1, uu f50b14.eq_1, vv f50r15.eq_1, uu f50b16.eq_1]
      exact fin hS (by rw [right_no hm (by omega)])
    · simp only [c1, c4, h1, h2, h3, h4, eds_len, eds_at hlt, normRows_eds, Qs, if_true, if_false, List.append_nil, Nat.reduceAdd, Nat.reduceLeDiff, Nat.reduceBEq, Int.reduceLT, Int.reduceLE, Int.reduceToNat, vv f50r3.eq_1, uu f50b6.eq_1, vv f50r7.eq_1, uu f50b8.eq_1, vv f50r9.eq_1, uu f50b10.eq_1, uu f50b11.eq_1, uu f50b12.eq_1, uu f50b13.eq_1, uu f50b14.eq_1, vv f50r15.eq_1, uu f50b16.eq_1]
      refine Next.intro (i + 1) rfl rfl ⟨by omega, ?_⟩ (by omega)
      rw [List.take_succ_eq_append_getElem hlt, List.all_append, hd]
      simp [edgeOk]; omega
  · obtain rfl : i = l.length := by omega
    have c1 : ¬ (l.length : Int) < l.length := by omega
    rw [List.take_length] at hd
    simp only [c1, eds_len, Qs, if_true, List.nodup_nil, Nat.reduceBEq, vv f50r1.eq_1, uu f50b2.eq_1, uu f50b13.eq_1, uu f50b14.eq_1, vv f50r15.eq_1, uu f50b16.eq_1]
    refine fin hS ?_
    unfold rightG; rw [decide_eq_true (by omega), hd]; rfl
def leastIn (s : Int) (far : List Int) : List Int → Int → Int
  | [], least => least
  | b :: l, least => leastIn s far l (if b ≥ s ∧ getI far b > 0 ∧ (least = 0 ∨ getI far b < least) then getI far b else least)
def findB (s : Int) (far : List Int) (left : Int) : List Int → Option Int
  | [] => none
  | b :: l => if b > s ∧ getI far b = left then some b else findB s far left l
def growB (to : List (List Int)) (s : Int) (far : List Int) (left : Int) (best : List Int) : List Int :=
  match findB s far left (to.getD (best.getD (best.length - 1) 0).toNat []) with
  | some b => best ++ [b]
  | none => best
def pathG (to : List (List Int)) (s : Int) (far : List Int) : Nat → List Int → List Int
  | 0, best => best
  | k + 1, best => pathG to s far k (growB to s far ((k : Int) + 2) best)
def cycStep (to back : List (List Int)) (n : Nat) (best : List Int) (s : Nat) : List Int :=
  let far := stepsG back s n
  let least := leastIn s far (to.getD s []) 0
  if least = 0 ∨ (best ≠ [] ∧ least ≥ best.length) then best else pathG to s far (least.toNat - 1) [(s : Int)]
def swapE (l : List (Int × Int)) : List (Int × Int) := l.map fun p => (p.2, p.1)
def cycleG (n : Nat) (l : List (Int × Int)) : List Int := (List.range n).foldl (cycStep (nextG n l) (nextG n (swapE l)) n) []
end Go.Abs


set_option maxRecDepth 100000
set_option maxHeartbeats 4000000
namespace Go.Abs
open Go.Proofs Go.RowKit
theorem eds_set (l : List (Int × Int)) (i : Nat) (a b : Int) : (eds l).set i [.int .i64 a, .int .i64 b] = eds (l.set i (a, b)) := by simp [eds, encE, List.map_set]
theorem eds_repl (n : Nat) : List.replicate n [C.int .i64 0, C.int .i64 0] = eds (List.replicate n (0, 0)) := by simp [eds, encE]
theorem ints_repl (n : Nat) : List.replicate n [C.int .i64 0] = ints (List.replicate n 0) := by simp [ints]
theorem swapE_len (l : List (Int × Int)) : (swapE l).length = l.length := by simp [swapE]
def halfS (l : List (Int × Int)) (i : Nat) : List (Int × Int) := (swapE l).take i ++ List.replicate (l.length - i) (0, 0)
theorem halfS_len {l : List (Int × Int)} {i : Nat} (h : i ≤ l.length) : (halfS l i).length = l.length := by simp [halfS, swapE_len]; omega
theorem halfS_next {l : List (Int × Int)} {i : Nat} (h : i < l.length) : (halfS l i).set i (l[i].2, l[i].1) = halfS l (i + 1) := by
  have hs : i < (swapE l).length := by rw [swapE_len]; exact h
  unfold halfS
  rw [List.take_succ_eq_append_getElem hs, show l.length - i = (l.length - (i + 1)) + 1 by omega, List.replicate_succ, List.set_append_right _ _ (by simp; omega)]
  have e : i - ((swapE l).take i).length = 0 := by simp; omega
  rw [e, List.set_cons_zero, List.append_assoc]
  simp [swapE]
def bstV : List Int → V
  | [] => .k (.own 11)
  | _ :: _ => .k (.own 107)
def bstO (far : List Int) (nl : Option Bool) : List Int → OS
  | [] => [(11, .arr 3 1 (some true) []), (49, .arr 3 1 nl (ints far))]
  | b :: l => [(49, .arr 3 1 nl (ints far)), (107, .arr 3 1 (some false) (ints (b :: l)))]
theorem bst_look (far : List Int) (nl : Option Bool) (best : List Int) : lookO 49 (bstO far nl best) = some (.arr 3 1 nl (ints far)) := by cases best <;> rfl
theorem bst_keep (far far' : List Int) (nl : Option Bool) (best : List Int) : keepO ((49, .arr 3 1 none (ints far')) :: bstO far nl best) [11, 25, 44, 47, 49, 107, 141, 45000, 45001, 45002, 48000, 48001, 48002] = bstO far' none best := by cases best <;> rfl
theorem bst_keep0 (far : List Int) (nl : Option Bool) (best : List Int) : keepO (bstO far nl best) [11, 25, 44, 47, 49, 107, 141, 45000, 45001, 45002, 48000, 48001, 48002] = bstO far nl best := by cases best <;> rfl
theorem mem_outs {l : List (Int × Int)} {i a : Int} (h : a ∈ outs l i) : ∃ p ∈ l, p.1 = i ∧ p.2 = a := by
  unfold outs at h
  have h1 : a ∈ sortI ((l.filter fun p => decide (p.1 = i)).map (·.2)) := by
    unfold Lib.compact Lib.compactUpTo at h
    obtain ⟨k, hk, rfl⟩ := List.mem_map.1 h
    have hk' := List.mem_range.1 (List.mem_filter.1 hk).1
    simp [getElem!_pos, hk']
  obtain ⟨p, hp, rfl⟩ := List.mem_map.1 (List.mem_mergeSort.1 h1)
  obtain ⟨hp1, hp2⟩ := List.mem_filter.1 hp
  exact ⟨p, hp1, of_decide_eq_true hp2, rfl⟩
theorem outs_len (l : List (Int × Int)) (i : Int) : (outs l i).length ≤ l.length := by
  unfold outs
  refine Nat.le_trans (compact_le _) ?_
  rw [show (sortI ((l.filter fun p => decide (p.1 = i)).map (·.2))).length = _ from List.length_mergeSort _, List.length_map]
  exact List.length_filter_le _ _
theorem nextG_at {n : Nat} {l : List (Int × Int)} {i : Nat} (h : i < n) : (nextG n l).getD i [] = outs l i := by simp [nextG, h]
theorem nextG_ok {n : Nat} {l : List (Int × Int)} (hl : l.length ≤ 2000) (hr : ∀ p ∈ l, 0 ≤ p.2 ∧ p.2 < n) : ∀ x ∈ nextG n l, x.length ≤ 2000 ∧ ∀ a ∈ x, 0 ≤ a ∧ a < n := by
  intro x hx
  obtain ⟨i, _, rfl⟩ := List.mem_map.1 hx
  refine ⟨Nat.le_trans (outs_len _ _) hl, fun a ha => ?_⟩
  obtain ⟨p, hp, _, rfl⟩ := mem_outs ha
  exact hr p hp
theorem leastIn_drop {L : List Int} {k : Nat} {s least : Int} {far : List Int} (h : k < L.length) : leastIn s far (L.drop k) least = leastIn s far (L.drop (k + 1)) (if L[k] ≥ s ∧ getI far L[k] > 0 ∧ (least = 0 ∨ getI far L[k] < least) then getI far L[k] else least) := by
  rw [List.drop_eq_getElem_cons h, leastIn]
theorem findB_drop {L : List Int} {k : Nat} {s left : Int} {far : List Int} (h : k < L.length) : findB s far left (L.drop k) = if L[k] > s ∧ getI far L[k] = left then some L[k] else findB s far left (L.drop (k + 1)) := by
  rw [List.drop_eq_getElem_cons h, findB]
theorem bfs_sane {n : Nat} {back : List (List Int)} (hb : ∀ x ∈ back, ∀ a ∈ x, 0 ≤ a ∧ a < (n : Int)) (s : Int) : ∀ (k : Nat) (far q : List Int), Sane n far q → ∃ q', Sane n (bfs back s k far q) q'
  | 0, far, q, h => ⟨q, h⟩
  | k + 1, far, [], h => ⟨[], h⟩
  | k + 1, far, b :: q, h => by
    rw [bfs]
    have h1 : Sane n far q := ⟨h.len, h.pos, h.top, fun a ha => h.q0 a (List.mem_cons_of_mem _ ha)⟩
    refine bfs_sane hb s k _ _ (bfsIn_sane s b _ far q (fun a ha => ?_) h1).1
    by_cases hl : b.toNat < back.length
    · exact hb _ (show back.getD b.toNat [] ∈ back by simp [List.getD, hl]) a ha
    · have : back.getD b.toNat [] = [] := by simp [List.getD, hl]
      rw [this] at ha; cases ha
theorem steps_facts {n s : Nat} {back : List (List Int)} (hs : s < n) (hb : ∀ x ∈ back, ∀ a ∈ x, 0 ≤ a ∧ a < (n : Int)) : (stepsG back s n).length = n ∧ ∀ i, 0 ≤ (stepsG back s n).getD i 0 ∧ (stepsG back s n).getD i 0 ≤ n := by
  obtain ⟨q, h⟩ := bfs_sane hb s n _ _ (sane_start hs).1
  exact ⟨h.len, fun i => ⟨h.pos i, by have := h.top i; have : (0 : Int) ≤ zeros (bfs back s n ((List.replicate n 0).set s 1) [(s : Int)]) := Int.natCast_nonneg _; show (bfs _ _ _ _ _).getD i 0 ≤ _; omega⟩⟩
theorem leastIn_le {n : Nat} {s : Int} {far : List Int} (hf : ∀ i, 0 ≤ far.getD i 0 ∧ far.getD i 0 ≤ n) : ∀ (L : List Int) (least : Int), 0 ≤ least ∧ least ≤ n → 0 ≤ leastIn s far L least ∧ leastIn s far L least ≤ n
  | [], _, h => h
  | b :: L, least, h => by
    rw [leastIn]
    refine leastIn_le hf L _ ?_
    split
    · exact hf _
    · exact h
theorem g41 (n : Nat) (l : List (Int × Int)) : Spec Try.prog 41 [.int .i64 n, lst 2 (eds l)] (fun r => r = lst 1 (ints (if rightG n l = true then cycleG n l else []))) := by
  refine Spec.of_len hf41 fun hlen => ?_
  have hll := len_lst (sz := 2) (rows := eds l) (by simp) hlen
  rw [eds_len] at hll
  clear hlen
  refine Spec.of_awlP hf41 okf41 (by simp) fun S hS => ?_
  have c50 := g50 n l
  simp only [normRows_eds, Qs, Nat.reduceAdd, Nat.reduceBEq, uu f41.eq_1, vv f41r100.eq_1, uu f41b101.eq_1, uu f41b102.eq_1, vv f41r103.eq_1, uu f41b104.eq_1]
  refine call_s c50 ?_
  cases hr : rightG n l with
  | false =>
    rw [hr, if_neg (by simp)] at hS
    simp only [normRows_eds, Qs, if_true, BEq.rfl, List.nodup_nil, List.nodup_cons, Nat.reduceBEq, List.not_mem_nil, vv f41r97.eq_1, uu f41b98.eq_1, uu f41b99.eq_1]
    exact hS _ rfl
  | true =>
    rw [hr, if_pos rfl] at hS
    obtain ⟨⟨_, hn3, hl2⟩, hrg⟩ := rightG_yes hr
    have hn : n ≤ 300 := by omega
    have b1 : (0 : Int) ≤ l.length := by omega
    have b2 : (16 : Int) * l.length ≤ 281474976710656 := by omega
    have b3 : (l.length : Int) ≤ 9223372036854775807 := by omega
    simp only [eds_len, eds_repl, normRows_eds, Qs, bne_iff_ne, ne_eq, Nat.reduceAdd, Nat.reduceEqDiff, Nat.reduceBEq, uu f41b91.eq_1, vv f41r92.eq_1, uu f41b93.eq_1, uu f41b94.eq_1, vv f41r95.eq_1, uu f41b96.eq_1, uu f41b99.eq_1]
    refine ⟨Int.le_refl _, b2, b3, ?_⟩
    rw [uu f41l90.eq_1]
    refine awl_loop (fun i : Nat => [(0, .int .i64 n), (1, lst 2 (eds l)), (5, .k (.own 25)), (26, lst 2 (eds l)), (27, .int .i64 l.length), (28, .int .i64 i)]) (fun i => [(25, .arr 59 2 (some false) (eds (halfS l i)))])
      (fun i => i ≤ l.length) (fun i => l.length - i) 0 rfl (by simp only [halfS, List.take_zero, List.nil_append, Nat.sub_zero, Int.toNat_natCast]; rfl) (Nat.zero_le _) ?_
    intro i hi
    by_cases hlt : i < l.length
    · have c1 : (i : Int) < l.length := by omega
      have c4 : IntKind.i64.wrap ((i : Int) + 1) = (i : Int) + 1 := wrap_in (by omega) (by omega)
      have hh := halfS_len hi
      simp only [c1, c4, eds_len, eds_at hlt, normRows_eds, hh, Qs, if_true, if_false, bne_iff_ne, ne_eq, List.append_nil, Nat.reduceAdd, Nat.reduceEqDiff, Nat.reduceLeDiff, Nat.reduceBEq, Int.reduceLT, Int.reduceLE, Int.reduceToNat, vv f41r80.eq_1, vv f41r81.eq_1, vv f41r82.eq_1, uu f41b83.eq_1, uu f41b84.eq_1, uu f41b85.eq_1, uu f41b86.eq_1, uu f41b87.eq_1, vv f41r88.eq_1, uu f41b89.eq_1]
      exact Next.intro (i + 1) rfl (by simp only [eds_set, halfS_next hlt]; rfl) (by omega) (by omega)
    · obtain rfl : i = l.length := by omega
      have c1 : ¬ (l.length : Int) < l.length := by omega
      have hfull : halfS l l.length = swapE l := by unfold halfS; rw [Nat.sub_self, List.take_of_length_le (by rw [swapE_len]; omega)]; simp
      have c51 := g51 n l (by omega) (by omega) (fun p hp => by have := hrg p hp; omega)
      have c51b := g51 n (swapE l) (by omega) (by rw [swapE_len]; omega) (fun p hp => by obtain ⟨q, hq, rfl⟩ := List.mem_map.1 hp; have := hrg q hq; show 0 ≤ q.2 ∧ q.2 < _; omega)
      simp only [c1, hfull, eds_len, normRows_eds, Qs, if_true, Nat.reduceBEq, vv f41r78.eq_1, uu f41b79.eq_1, uu f41b86.eq_1, uu f41b87.eq_1, vv f41r88.eq_1, uu f41b89.eq_1]
      refine call_l c51 ?_ (ha := by simp [lendL, lendO, lookO, V.norm, norm_list, lst, normRows_eds])
      simp only [normRows_eds, Qs, Nat.reduceBEq]
      refine call_l c51b ?_ (ha := by simp [lendL, lendO, lookO, V.norm, norm_list, lst, normRows_eds])
      simp only [normRows_eds, ints_repl, Qs, if_true, if_false, bne_iff_ne, ne_eq, Nat.reduceEqDiff, Nat.reduceBEq, uu f41b70.eq_1, vv f41r71.eq_1, uu f41b72.eq_1, uu f41b73.eq_1, vv f41r74.eq_1, uu f41b75.eq_1, vv f41r76.eq_1, uu f41b77.eq_1]
      have to1 := nextG_ok (n := n) (l := l) (by omega) (fun p hp => by have := hrg p hp; omega)
      have bk1 := nextG_ok (n := n) (l := swapE l) (by rw [swapE_len]; omega) (fun p hp => by obtain ⟨q, hq, rfl⟩ := List.mem_map.1 hp; have := hrg q hq; show 0 ≤ q.1 ∧ q.1 < _; omega)
      have tol := nextG_len n l
      have bkl := nextG_len n (swapE l)
      have hfold : ∀ m, m ≤ n → True := fun _ _ => trivial
      generalize hto : nextG n l = to at *
      generalize hbk : nextG n (swapE l) = bk at *
      have hcyc : cycleG n l = (List.range n).foldl (cycStep to bk n) [] := by unfold cycleG; rw [hto, hbk]
      rw [hcyc] at hS
      refine ⟨Int.le_refl _, by omega, by omega, ?_⟩
      rw [uu f41l69.eq_1]
      refine awl_loop (fun x : Nat × List Int × List Int × Option Bool => [(8, .list 1 none (ill to)), (9, .list 1 none (ill bk)), (10, .k (.own 49)), (11, bstV x.2.1), (50, .int .i64 n), (51, .int .i64 x.1)]) (fun x => bstO x.2.2.1 x.2.2.2 x.2.1)
        (fun x => x.1 ≤ n ∧ x.2.2.1.length = n ∧ x.2.1.length ≤ 301 ∧ x.2.1 = (List.range x.1).foldl (cycStep to bk n) []) (fun x => n - x.1) (0, [], List.replicate n 0, some false) rfl rfl ⟨Nat.zero_le _, by simp, by simp, rfl⟩ ?_
      rintro ⟨s, best, far0, nl⟩ ⟨hs, hfl, hbl, hbest⟩
      simp only [] at hs hfl hbl hbest
      by_cases hlt : s < n
      · have c1 : (s : Int) < n := by omega
        have c4 : IntKind.i64.wrap ((s : Int) + 1) = ((s + 1 : Nat) : Int) := by rw [wrap_in (by omega) (by omega)]; omega
        have c52 := g52 n s 49 bk far0 (by omega) hlt bkl hfl (fun x hx => by have := bk1 x hx; exact ⟨by omega, this.2⟩)
        obtain ⟨hf1, hf2⟩ := steps_facts hlt (fun x hx => (bk1 x hx).2)
        obtain ⟨L, hL⟩ : ∃ L, to.getD s [] = L := ⟨_, rfl⟩
        have hmem : L ∈ to := by rw [← hL]; simp [List.getD, show s < to.length by omega]
        have htl := to1 _ hmem
        have hat : (ill to).getD s [] = [lstC 1 (ints L)] := by rw [ill_at (by omega), ← hL]; simp [List.getD, show s < to.length by omega]
        obtain ⟨far, hfar⟩ : ∃ f, stepsG bk s n = f := ⟨_, rfl⟩
        have hstep : (List.range (s + 1)).foldl (cycStep to bk n) [] = if leastIn s far L 0 = 0 ∨ (best ≠ [] ∧ leastIn s far L 0 ≥ best.length) then best else pathG to s far ((leastIn s far L 0).toNat - 1) [(s : Int)] := by
          rw [List.range_succ, List.foldl_append, ← hbest, ← hL, ← hfar]; rfl
        rw [hfar] at c52 hf1 hf2
        simp only [c1, ill_len, normRows_ill, tol, Qs, if_true, Nat.reduceBEq, vv f41r3.eq_1, vv f41r59.eq_1, uu f41b60.eq_1, vv f41r61.eq_1, uu f41b62.eq_1, uu f41b63.eq_1, uu f41b64.eq_1, uu f41b65.eq_1, uu f41b66.eq_1, vv f41r67.eq_1, uu f41b68.eq_1]
        refine call_steps far0 _ c52 (by simp [V.nrm, Abs.K.nrm, norm_list, lst, normRows_ill]) (by simp [V.within, Abs.K.within]) (bst_look far0 nl best) ?_
        simp only [c1, hat, ill_len, ints_len, normRows_ill, tol, Qs, Nat.reduceBEq, uu f41b53.eq_1, vv f41r54.eq_1, uu f41b55.eq_1, uu f41b56.eq_1, vv f41r57.eq_1, uu f41b58.eq_1]
        rw [uu f41l52.eq_1]
        refine awl_loop (fun x : Nat × Int => [(8, .list 1 none (ill to)), (9, .list 1 none (ill bk)), (10, .k (.own 49)), (11, bstV best), (12, .int .i64 s), (13, .int .i64 x.2), (50, .int .i64 n), (51, .int .i64 s), (61, lst 1 (ints L)), (62, .int .i64 L.length), (63, .int .i64 x.1)]) (fun _ => bstO far none best)
          (fun x => x.1 ≤ L.length ∧ leastIn s far (L.drop x.1) x.2 = leastIn s far L 0) (fun x => L.length - x.1) (0, 0) rfl (bst_keep _ _ _ _) ⟨Nat.zero_le _, rfl⟩ ?_
        rintro ⟨k, least⟩ ⟨hk, hle⟩
        simp only [] at hk hle
        by_cases hkt : k < L.length
        · have d1 : (k : Int) < L.length := by omega
          have d4 : IntKind.i64.wrap ((k : Int) + 1) = (k : Int) + 1 := wrap_in (by omega) (by omega)
          rw [leastIn_drop hkt] at hle
          obtain ⟨hb0, hb1⟩ := htl.2 _ (List.getElem_mem hkt)
          have hLk : (ints L).getD k [] = [.int .i64 L[k]] := ints_at hkt
          generalize L[k] = b at hLk hle hb0 hb1
          have hbn : b.toNat < far.length := by omega
          have hfb : (ints far).getD b.toNat [] = [.int .i64 (getI far b)] := by rw [ints_at hbn]; simp [getI, List.getD, hbn]
          have hb2 : b < (far.length : Int) := by omega
          generalize getI far b = y at hfb hle
          by_cases g1 : b ≥ s
          case neg =>
            simp only [d1, d4, g1, bst_look, ints_len, hLk, hfb, Qs, if_true, Nat.reduceBEq, vv f41r39.eq_1, vv f41r40.eq_1, uu f41b41.eq_1, vv f41r42.eq_1, uu f41b43.eq_1, vv f41r44.eq_1, uu f41b45.eq_1, uu f41b46.eq_1, uu f41b47.eq_1, uu f41b48.eq_1, uu f41b49.eq_1, vv f41r50.eq_1, uu f41b51.eq_1]
            exact Next.intro (k + 1, least) rfl (bst_keep0 _ _ _) ⟨by show k + 1 ≤ L.length; omega, by rw [if_neg (fun h => g1 h.1)] at hle; exact hle⟩ (by show L.length - (k + 1) < L.length - k; omega)
          by_cases g2 : y > 0
          case neg =>
            simp only [d1, d4, g1, g2, hb0, hb2, bst_look, ints_len, hLk, hfb, Qs, if_true, Nat.reduceBEq, vv f41r39.eq_1, vv f41r40.eq_1, uu f41b41.eq_1, vv f41r42.eq_1, uu f41b43.eq_1, vv f41r44.eq_1, uu f41b45.eq_1, uu f41b46.eq_1, uu f41b47.eq_1, uu f41b48.eq_1, uu f41b49.eq_1, vv f41r50.eq_1, uu f41b51.eq_1]
            exact Next.intro (k + 1, least) rfl (bst_keep0 _ _ _) ⟨by show k + 1 ≤ L.length; omega, by rw [if_neg (fun h => g2 h.2.1)] at hle; exact hle⟩ (by show L.length - (k + 1) < L.length - k; omega)
          by_cases g3 : least = 0
          case pos =>
            have g3' : (least == 0) = true := by simpa using g3
            simp only [d1, d4, g1, g2, g3', hb0, hb2, bst_look, ints_len, hLk, hfb, Qs, if_true, Nat.reduceBEq, vv f41r39.eq_1, vv f41r40.eq_1, uu f41b41.eq_1, vv f41r42.eq_1, uu f41b43.eq_1, vv f41r44.eq_1, uu f41b45.eq_1, uu f41b46.eq_1, uu f41b47.eq_1, uu f41b48.eq_1, uu f41b49.eq_1, vv f41r50.eq_1, uu f41b51.eq_1]
            exact Next.intro (k + 1, y) rfl (bst_keep0 _ _ _) ⟨by show k + 1 ≤ L.length; omega, by rw [if_pos ⟨g1, g2, .inl g3⟩] at hle; exact hle⟩ (by show L.length - (k + 1) < L.length - k; omega)
          have g3' : (least == 0) = false := by simpa using g3
          by_cases g4 : y < least
          · simp only [d1, d4, g1, g2, g3', g4, hb0, hb2, bst_look, ints_len, hLk, hfb, Qs, if_true, if_false, Nat.reduceBEq, vv f41r39.eq_1, vv f41r40.eq_1, uu f41b41.eq_1, vv f41r42.eq_1, uu f41b43.eq_1, vv f41r44.eq_1, uu f41b45.eq_1, uu f41b46.eq_1, uu f41b47.eq_1, uu f41b48.eq_1, uu f41b49.eq_1, vv f41r50.eq_1, uu f41b51.eq_1]
            exact Next.intro (k + 1, y) rfl (bst_keep0 _ _ _) ⟨by show k + 1 ≤ L.length; omega, by rw [if_pos ⟨g1, g2, .inr g4⟩] at hle; exact hle⟩ (by show L.length - (k + 1) < L.length - k; omega)
          · simp only [d1, d4, g1, g2, g3', g4, hb0, hb2, bst_look, ints_len, hLk, hfb, Qs, if_true, if_false, Nat.reduceBEq, vv f41r39.eq_1, vv f41r40.eq_1, uu f41b41.eq_1, vv f41r42.eq_1, uu f41b43.eq_1, vv f41r44.eq_1, uu f41b45.eq_1, uu f41b46.eq_1, uu f41b47.eq_1, uu f41b48.eq_1, uu f41b49.eq_1, vv f41r50.eq_1, uu f41b51.eq_1]
            exact Next.intro (k + 1, least) rfl (bst_keep0 _ _ _) ⟨by show k + 1 ≤ L.length; omega, by rw [if_neg (fun h => h.2.2.elim g3 g4)] at hle; exact hle⟩ (by show L.length - (k + 1) < L.length - k; omega)
        · obtain rfl : k = L.length := by omega
          have d1 : ¬ (L.length : Int) < L.length := by omega
          rw [List.drop_length, leastIn] at hle
          rw [← hle] at hstep
          obtain ⟨le0, le1⟩ := leastIn_le hf2 L 0 ⟨by omega, by omega⟩ (s := (s : Int))
          rw [← hle] at le0 le1
          by_cases hz : least = 0
          case pos =>
            rw [if_pos (.inl hz)] at hstep
            subst hz
            simp only [d1, c4, ints_len, Qs, if_true, if_false, BEq.rfl, Nat.reduceEqDiff, Nat.reduceBEq, uu f41b35.eq_1, vv f41r36.eq_1, uu f41b37.eq_1, uu f41b38.eq_1, uu f41b48.eq_1, uu f41b49.eq_1, vv f41r50.eq_1, uu f41b51.eq_1]
            exact Next.intro (s + 1, best, far, none) rfl (bst_keep0 _ _ _) ⟨hlt, hf1, hbl, hstep.symm⟩ (by show n - (s + 1) < n - s; omega)
          have hz' : (least == 0) = false := by simpa using hz
          by_cases hge : best ≠ [] ∧ least ≥ best.length
          case pos =>
            rw [if_pos (.inr hge)] at hstep
            cases best with
            | nil => exact absurd rfl hge.1
            | cons b0 bt =>
              have hge2 : least ≥ ((b0 :: bt).length : Int) := hge.2
              generalize hbb : b0 :: bt = bb at *
              have e1 : bstV bb = .k (.own 107) := by rw [← hbb]; rfl
              have e2 : bstO far none bb = [(49, .arr 3 1 none (ints far)), (107, .arr 3 1 (some false) (ints bb))] := by rw [← hbb]; rfl
              simp only [d1, c4, hz', e1, e2, hge2, ints_len, Qs, if_true, if_false, Nat.reduceEqDiff, Nat.reduceBEq, uu f41b35.eq_1, vv f41r36.eq_1, uu f41b37.eq_1, uu f41b38.eq_1, uu f41b48.eq_1, uu f41b49.eq_1, vv f41r50.eq_1, uu f41b51.eq_1]
              exact Next.intro (s + 1, bb, far, none) (by simp only [e1]; rfl) (by simp only [e2]; rfl) ⟨hlt, hf1, hbl, hstep.symm⟩ (by show n - (s + 1) < n - s; omega)
          rw [if_neg (fun h => h.elim hz hge)] at hstep
          obtain ⟨m, hm⟩ : ∃ m : Nat, least = (m : Int) + 1 := ⟨least.toNat - 1, by omega⟩
          rw [show least.toNat - 1 = m by omega] at hstep
          have hor : best = [] ∨ (best ≠ [] ∧ ¬ least ≥ best.length) := by
            by_cases hb : best = []
            · exact .inl hb
            · exact .inr ⟨hb, fun h => hge ⟨hb, h⟩⟩
          have e12 : (best = [] ∧ bstV best = .k (.own 11) ∧ bstO far none best = [(11, .arr 3 1 (some true) []), (49, .arr 3 1 none (ints far))]) ∨ (¬ least ≥ best.length ∧ bstV best = .k (.own 107) ∧ bstO far none best = [(49, .arr 3 1 none (ints far)), (107, .arr 3 1 (some false) (ints best))]) := by
            cases best with
            | nil => exact .inl ⟨rfl, rfl, rfl⟩
            | cons b0 bt => exact .inr ⟨fun h => hge ⟨by simp, h⟩, rfl, rfl⟩
          rcases e12 with ⟨e0, e1, e2⟩ | ⟨e0, e1, e2⟩
          · subst e0
            simp only [d1, c4, hz', e1, e2, ints_len, Qs, q_awl_eq_11, q_keepT_eq_1, q_keepT_eq_2, q_keepO_eq_1, q_keepO_eq_2, q_addO_eq_1, q_addO_eq_2, if_true, if_false, forall_eq, bne_iff_ne, ne_eq, List.mem_cons, Nat.reduceEqDiff, Nat.reduceLT, Nat.reduceBEq, List.not_mem_nil, uu f41b30.eq_1, vv f41r31.eq_1, uu f41b32.eq_1, vv f41r33.eq_1, uu f41b34.eq_1, uu f41b35.eq_1, vv f41r36.eq_1, uu f41b37.eq_1, uu f41b38.eq_1, uu f41b48.eq_1, uu f41b49.eq_1, vv f41r50.eq_1, uu f41b51.eq_1]
            rw [uu f41l29.eq_1]
            refine awl_loop (fun x : Nat × List Int => [(8, .list 1 none (ill to)), (9, .list 1 none (ill bk)), (10, .k (.own 49)), (11, .k (.own 107)), (12, .int .i64 s), (16, .int .i64 ((x.1 : Int) + 1)), (50, .int .i64 n), (51, .int .i64 s)]) (fun x => [(49, .arr 3 1 none (ints far)), (107, .arr 3 1 (some false) (ints x.2))])
              (fun x => x.2 ≠ [] ∧ (∀ a ∈ x.2, 0 ≤ a ∧ a < n) ∧ x.2.length + x.1 ≤ 301 ∧ pathG to s far x.1 x.2 = pathG to s far m [(s : Int)]) (fun x => x.1) (m, [(s : Int)]) (by rw [hm]; rfl) rfl ⟨by simp, by simp; omega, by simp; omega, rfl⟩ ?_
            rintro ⟨k, bs⟩ ⟨hb1, hb2, hb3, hb4⟩
            simp only [] at hb1 hb2 hb3 hb4
            cases k with
            | zero =>
              have z1 : ¬ ((0 : Nat) : Int) + 1 > 1 := by omega
              rw [pathG] at hb4
              rw [← hb4] at hstep
              simp only [z1, c4, Qs, if_true, if_false, ne_eq, Nat.reduceEqDiff, Nat.reduceBEq, Int.reduceGT, Int.reduceAdd, uu f41b25.eq_1, vv f41r26.eq_1, uu f41b27.eq_1, uu f41b28.eq_1]
              cases bs with
              | nil => exact absurd rfl hb1
              | cons b0 bt => exact Next.intro (s + 1, b0 :: bt, far, none) rfl rfl ⟨hlt, hf1, by show (b0 :: bt).length ≤ 301; omega, hstep.symm⟩ (by show n - (s + 1) < n - s; omega)
            | succ k =>
              obtain ⟨p, hp⟩ : ∃ p, bs.length = p + 1 := ⟨bs.length - 1, by have := List.length_pos_iff.2 hb1; omega⟩
              have z1 : ((k + 1 : Nat) : Int) + 1 > 1 := by omega
              have z2 : IntKind.i64.wrap (((p + 1 : Nat) : Int) - 1) = (p : Int) := by rw [wrap_in (by omega) (by omega)]; omega
              have z3 : IntKind.i64.wrap (((k + 1 : Nat) : Int) + 1 - 1) = (k : Int) + 1 := by rw [wrap_in (by omega) (by omega)]; omega
              obtain ⟨lb, hlb⟩ : ∃ lb, bs.getD p 0 = lb := ⟨_, rfl⟩
              have hla : (ints bs).getD p [] = [.int .i64 lb] := by rw [ints_at (by omega), ← hlb]; simp [List.getD, show p < bs.length by omega]
              have hlm : lb ∈ bs := by rw [← hlb]; simp [List.getD, show p < bs.length by omega]
              obtain ⟨lb0, lbn⟩ := hb2 lb hlm
              have z4 : (0 : Int) ≤ (p : Int) := by omega
              have z5 : (p : Int) < ((p + 1 : Nat) : Int) := by omega
              obtain ⟨M, hM⟩ : ∃ M, to.getD lb.toNat [] = M := ⟨_, rfl⟩
              have hMm : M ∈ to := by rw [← hM]; simp [List.getD, show lb.toNat < to.length by omega]
              have hMl := to1 _ hMm
              have hMa : (ill to).getD lb.toNat [] = [lstC 1 (ints M)] := by rw [ill_at (by omega), ← hM]; simp [List.getD, show lb.toNat < to.length by omega]
              have hgrow : growB to s far ((k : Int) + 2) bs = match findB s far ((k : Int) + 2) M with | some b => bs ++ [b] | none => bs := by
                unfold growB
                rw [hp, show p + 1 - 1 = p by omega, hlb, hM]
                try rfl
              rw [pathG] at hb4
              simp only [z1, z2, z4, z5, hla, hMa, hp, lb0, lbn, tol, ints_len, ill_len, normRows_ill, Int.toNat_natCast, Qs, if_true, ne_eq, Nat.reduceBEq, vv f41r4.eq_1, uu f41b20.eq_1, vv f41r21.eq_1, uu f41b22.eq_1, uu f41b23.eq_1, uu f41b24.eq_1, uu f41b25.eq_1, vv f41r26.eq_1, uu f41b27.eq_1, uu f41b28.eq_1]
              rw [uu f41l19.eq_1]
              refine awl_loop (fun j : Nat => [(8, .list 1 none (ill to)), (9, .list 1 none (ill bk)), (10, .k (.own 49)), (11, .k (.own 107)), (12, .int .i64 s), (16, .int .i64 (((k + 1 : Nat) : Int) + 1)), (50, .int .i64 n), (51, .int .i64 s), (121, lst 1 (ints M)), (122, .int .i64 M.length), (123, .int .i64 j)]) (fun _ => [(49, .arr 3 1 none (ints far)), (107, .arr 3 1 (some false) (ints bs))])
                (fun j => j ≤ M.length ∧ findB s far ((k : Int) + 2) (M.drop j) = findB s far ((k : Int) + 2) M) (fun j => M.length - j) 0 rfl rfl ⟨Nat.zero_le _, rfl⟩ ?_
              rintro j ⟨hj, hfd⟩
              by_cases hjt : j < M.length
              · have y1 : (j : Int) < M.length := by omega
                have y4 : IntKind.i64.wrap ((j : Int) + 1) = (j : Int) + 1 := wrap_in (by omega) (by omega)
                rw [findB_drop hjt] at hfd
                obtain ⟨w0, w1⟩ := hMl.2 _ (List.getElem_mem hjt)
                have hMj : (ints M).getD j [] = [.int .i64 M[j]] := ints_at hjt
                generalize M[j] = b at hMj hfd w0 w1
                have hbn : b.toNat < far.length := by omega
                have hfb : (ints far).getD b.toNat [] = [.int .i64 (getI far b)] := by rw [ints_at hbn]; simp [getI, List.getD, hbn]
                have hb2' : b < (far.length : Int) := by omega
                generalize getI far b = y at hfb hfd
                by_cases g1 : b > s
                case neg =>
                  simp only [y1, y4, g1, ints_len, hMj, hfb, Qs, if_true, Nat.reduceBEq, vv f41r5.eq_1, uu f41b8.eq_1, vv f41r9.eq_1, uu f41b10.eq_1, vv f41r11.eq_1, uu f41b12.eq_1, uu f41b13.eq_1, uu f41b14.eq_1, uu f41b15.eq_1, uu f41b16.eq_1, vv f41r17.eq_1, uu f41b18.eq_1]
                  exact Next.intro (j + 1) rfl rfl ⟨by omega, by rw [if_neg (fun h => g1 h.1)] at hfd; exact hfd⟩ (by omega)
                by_cases g2 : y = (((k + 1 : Nat) : Int) + 1)
                case neg =>
                  have g2' : (y == (((k + 1 : Nat) : Int) + 1)) = false := by simpa using g2
                  simp only [y1, y4, g1, g2', w0, hb2', ints_len, hMj, hfb, Qs, if_true, Nat.reduceBEq, vv f41r5.eq_1, uu f41b8.eq_1, vv f41r9.eq_1, uu f41b10.eq_1, vv f41r11.eq_1, uu f41b12.eq_1, uu f41b13.eq_1, uu f41b14.eq_1, uu f41b15.eq_1, uu f41b16.eq_1, vv f41r17.eq_1, uu f41b18.eq_1]
                  exact Next.intro (j + 1) rfl rfl ⟨by omega, by rw [if_neg (fun h => g2 (by rw [h.2]; push_cast; omega))] at hfd; exact hfd⟩ (by omega)
                have g2' : (y == (((k + 1 : Nat) : Int) + 1)) = true := by simpa using g2
                rw [if_pos ⟨g1, by rw [g2]; push_cast; omega⟩] at hfd
                rw [← hfd] at hgrow
                rw [hgrow] at hb4
                have q1 : bs.length + 1 ≤ 9223372036854775807 := by omega
                have q2 : (bs.length + 1) * 8 ≤ 140737488355328 := by omega
                simp only [y1, y4, g1, g2', z3, w0, hb2', q1, q2, ints_len, ints_snoc, hMj, hfb, Qs, if_true, if_false, forall_eq, bne_iff_ne, ne_eq, List.mem_cons, Nat.reduceEqDiff, Nat.reduceLT, Nat.reduceBEq, List.not_mem_nil, vv f41r5.eq_1, vv f41r6.eq_1, uu f41b7.eq_1, uu f41b8.eq_1, vv f41r9.eq_1, uu f41b10.eq_1, vv f41r11.eq_1, uu f41b12.eq_1, uu f41b13.eq_1, uu f41b14.eq_1, uu f41b15.eq_1, uu f41b16.eq_1, vv f41r17.eq_1, uu f41b18.eq_1]
                refine Next.intro (k, bs ++ [b]) rfl rfl ⟨by simp, ?_, by simp; omega, hb4⟩ (Nat.lt_succ_self k)
                intro a ha
                rcases List.mem_append.1 ha with ha | ha
                · exact hb2 a ha
                · rw [List.mem_singleton] at ha; rw [ha]; exact ⟨w0, w1⟩
              · obtain rfl : j = M.length := by omega
                have y1 : ¬ (M.length : Int) < M.length := by omega
                rw [List.drop_length, findB] at hfd
                rw [← hfd] at hgrow
                rw [hgrow] at hb4
                simp only [y1, z3, ints_len, Qs, if_true, if_false, Nat.reduceEqDiff, Nat.reduceBEq, uu f41b15.eq_1, uu f41b16.eq_1, vv f41r17.eq_1, uu f41b18.eq_1]
                exact Next.intro (k, bs) rfl rfl ⟨hb1, hb2, by show bs.length + k ≤ 301; omega, hb4⟩ (Nat.lt_succ_self k)
          · simp only [d1, c4, hz', e0, e1, e2, ints_len, Qs, q_awl_eq_11, q_keepT_eq_1, q_keepT_eq_2, q_keepO_eq_1, q_keepO_eq_2, q_addO_eq_1, q_addO_eq_2, if_true, if_false, forall_eq, bne_iff_ne, ne_eq, List.mem_cons, Nat.reduceEqDiff, Nat.reduceLT, Nat.reduceBEq, List.not_mem_nil, uu f41b30.eq_1, vv f41r31.eq_1, uu f41b32.eq_1, vv f41r33.eq_1, uu f41b34.eq_1, uu f41b35.eq_1, vv f41r36.eq_1, uu f41b37.eq_1, uu f41b38.eq_1, uu f41b48.eq_1, uu f41b49.eq_1, vv f41r50.eq_1, uu f41b51.eq_1]
            rw [uu f41l29.eq_1]
            refine awl_loop (fun x : Nat × List Int => [(8, .list 1 none (ill to)), (9, .list 1 none (ill bk)), (10, .k (.own 49)), (11, .k (.own 107)), (12, .int .i64 s), (16, .int .i64 ((x.1 : Int) + 1)), (50, .int .i64 n), (51, .int .i64 s)]) (fun x => [(49, .arr 3 1 none (ints far)), (107, .arr 3 1 (some false) (ints x.2))])
              (fun x => x.2 ≠ [] ∧ (∀ a ∈ x.2, 0 ≤ a ∧ a < n) ∧ x.2.length + x.1 ≤ 301 ∧ pathG to s far x.1 x.2 = pathG to s far m [(s : Int)]) (fun x => x.1) (m, [(s : Int)]) (by rw [hm]; rfl) rfl ⟨by simp, by simp; omega, by simp; omega, rfl⟩ ?_
            rintro ⟨k, bs⟩ ⟨hb1, hb2, hb3, hb4⟩
            simp only [] at hb1 hb2 hb3 hb4
            cases k with
            | zero =>
              have z1 : ¬ ((0 : Nat) : Int) + 1 > 1 := by omega
              rw [pathG] at hb4
              rw [← hb4] at hstep
              simp only [z1, c4, Qs, if_true, if_false, ne_eq, Nat.reduceEqDiff, Nat.reduceBEq, Int.reduceGT, Int.reduceAdd, uu f41b25.eq_1, vv f41r26.eq_1, uu f41b27.eq_1, uu f41b28.eq_1]
              cases bs with
              | nil => exact absurd rfl hb1
              | cons b0 bt => exact Next.intro (s + 1, b0 :: bt, far, none) rfl rfl ⟨hlt, hf1, by show (b0 :: bt).length ≤ 301; omega, hstep.symm⟩ (by show n - (s + 1) < n - s; omega)
            | succ k =>
              obtain ⟨p, hp⟩ : ∃ p, bs.length = p + 1 := ⟨bs.length - 1, by have := List.length_pos_iff.2 hb1; omega⟩
              have z1 : ((k + 1 : Nat) : Int) + 1 > 1 := by omega
              have z2 : IntKind.i64.wrap (((p + 1 : Nat) : Int) - 1) = (p : Int) := by rw [wrap_in (by omega) (by omega)]; omega
              have z3 : IntKind.i64.wrap (((k + 1 : Nat) : Int) + 1 - 1) = (k : Int) + 1 := by rw [wrap_in (by omega) (by omega)]; omega
              obtain ⟨lb, hlb⟩ : ∃ lb, bs.getD p 0 = lb := ⟨_, rfl⟩
              have hla : (ints bs).getD p [] = [.int .i64 lb] := by rw [ints_at (by omega), ← hlb]; simp [List.getD, show p < bs.length by omega]
              have hlm : lb ∈ bs := by rw [← hlb]; simp [List.getD, show p < bs.length by omega]
              obtain ⟨lb0, lbn⟩ := hb2 lb hlm
              have z4 : (0 : Int) ≤ (p : Int) := by omega
              have z5 : (p : Int) < ((p + 1 : Nat) : Int) := by omega
              obtain ⟨M, hM⟩ : ∃ M, to.getD lb.toNat [] = M := ⟨_, rfl⟩
              have hMm : M ∈ to := by rw [← hM]; simp [List.getD, show lb.toNat < to.length by omega]
              have hMl := to1 _ hMm
              have hMa : (ill to).getD lb.toNat [] = [lstC 1 (ints M)] := by rw [ill_at (by omega), ← hM]; simp [List.getD, show lb.toNat < to.length by omega]
              have hgrow : growB to s far ((k : Int) + 2) bs = match findB s far ((k : Int) + 2) M with | some b => bs ++ [b] | none => bs := by
                unfold growB
                rw [hp, show p + 1 - 1 = p by omega, hlb, hM]
                try rfl
              rw [pathG] at hb4
              simp only [z1, z2, z4, z5, hla, hMa, hp, lb0, lbn, tol, ints_len, ill_len, normRows_ill, Int.toNat_natCast, Qs, if_true, ne_eq, Nat.reduceBEq, vv f41r4.eq_1, uu f41b20.eq_1, vv f41r21.eq_1, uu f41b22.eq_1, uu f41b23.eq_1, uu f41b24.eq_1, uu f41b25.eq_1, vv f41r26.eq_1, uu f41b27.eq_1, uu f41b28.eq_1]
              rw [uu f41l19.eq_1]
              refine awl_loop (fun j : Nat => [(8, .list 1 none (ill to)), (9, .list 1 none (ill bk)), (10, .k (.own 49)), (11, .k (.own 107)), (12, .int .i64 s), (16, .int .i64 (((k + 1 : Nat) : Int) + 1)), (50, .int .i64 n), (51, .int .i64 s), (121, lst 1 (ints M)), (122, .int .i64 M.length), (123, .int .i64 j)]) (fun _ => [(49, .arr 3 1 none (ints far)), (107, .arr 3 1 (some false) (ints bs))])
                (fun j => j ≤ M.length ∧ findB s far ((k : Int) + 2) (M.drop j) = findB s far ((k : Int) + 2) M) (fun j => M.length - j) 0 rfl rfl ⟨Nat.zero_le _, rfl⟩ ?_
              rintro j ⟨hj, hfd⟩
              by_cases hjt : j < M.length
              · have y1 : (j : Int) < M.length := by omega
                have y4 : IntKind.i64.wrap ((j : Int) + 1) = (j : Int) + 1 := wrap_in (by omega) (by omega)
                rw [findB_drop hjt] at hfd
                obtain ⟨w0, w1⟩ := hMl.2 _ (List.getElem_mem hjt)
                have hMj : (ints M).getD j [] = [.int .i64 M[j]] := ints_at hjt
                generalize M[j] = b at hMj hfd w0 w1
                have hbn : b.toNat < far.length := by omega
                have hfb : (ints far).getD b.toNat [] = [.int .i64 (getI far b)] := by rw [ints_at hbn]; simp [getI, List.getD, hbn]
                have hb2' : b < (far.length : Int) := by omega
                generalize getI far b = y at hfb hfd
                by_cases g1 : b > s
                case neg =>
                  simp only [y1, y4, g1, ints_len, hMj, hfb, Qs, if_true, Nat.reduceBEq, vv f41r5.eq_1, uu f41b8.eq_1, vv f41r9.eq_1, uu f41b10.eq_1, vv f41r11.eq_1, uu f41b12.eq_1, uu f41b13.eq_1, uu f41b14.eq_1, uu f41b15.eq_1, uu f41b16.eq_1, vv f41r17.eq_1, uu f41b18.eq_1]
                  exact Next.intro (j + 1) rfl rfl ⟨by omega, by rw [if_neg (fun h => g1 h.1)] at hfd; exact hfd⟩ (by omega)
                by_cases g2 : y = (((k + 1 : Nat) : Int) + 1)
                case neg =>
                  have g2' : (y == (((k + 1 : Nat) : Int) + 1)) = false := by simpa using g2
                  simp only [y1, y4, g1, g2', w0, hb2', ints_len, hMj, hfb, Qs, if_true, Nat.reduceBEq, vv f41r5.eq_1, uu f41b8.eq_1, vv f41r9.eq_1, uu f41b10.eq_1, vv f41r11.eq_1, uu f41b12.eq_1, uu f41b13.eq_1, uu f41b14.eq_1, uu f41b15.eq_1, uu f41b16.eq_1, vv f41r17.eq_1, uu f41b18.eq_1]
                  exact Next.intro (j + 1) rfl rfl ⟨by omega, by rw [if_neg (fun h => g2 (by rw [h.2]; push_cast; omega))] at hfd; exact hfd⟩ (by omega)
                have g2' : (y == (((k + 1 : Nat) : Int) + 1)) = true := by simpa using g2
                rw [if_pos ⟨g1, by rw [g2]; push_cast; omega⟩] at hfd
                rw [← hfd] at hgrow
                rw [hgrow] at hb4
                have q1 : bs.length + 1 ≤ 9223372036854775807 := by omega
                have q2 : (bs.length + 1) * 8 ≤ 140737488355328 := by omega
                simp only [y1, y4, g1, g2', z3, w0, hb2', q1, q2, ints_len, ints_snoc, hMj, hfb, Qs, if_true, if_false, forall_eq, bne_iff_ne, ne_eq, List.mem_cons, Nat.reduceEqDiff, Nat.reduceLT, Nat.reduceBEq, List.not_mem_nil, vv f41r5.eq_1, vv f41r6.eq_1, uu f41b7.eq_1, uu f41b8.eq_1, vv f41r9.eq_1, uu f41b10.eq_1, vv f41r11.eq_1, uu f41b12.eq_1, uu f41b13.eq_1, uu f41b14.eq_1, uu f41b15.eq_1, uu f41b16.eq_1, vv f41r17.eq_1, uu f41b18.eq_1]
                refine Next.intro (k, bs ++ [b]) rfl rfl ⟨by simp, ?_, by simp; omega, hb4⟩ (Nat.lt_succ_self k)
                intro a ha
                rcases List.mem_append.1 ha with ha | ha
                · exact hb2 a ha
                · rw [List.mem_singleton] at ha; rw [ha]; exact ⟨w0, w1⟩
              · obtain rfl : j = M.length := by omega
                have y1 : ¬ (M.length : Int) < M.length := by omega
                rw [List.drop_length, findB] at hfd
                rw [← hfd] at hgrow
                rw [hgrow] at hb4
                simp only [y1, z3, ints_len, Qs, if_true, if_false, Nat.reduceEqDiff, Nat.reduceBEq, uu f41b15.eq_1, uu f41b16.eq_1, vv f41r17.eq_1, uu f41b18.eq_1]
                exact Next.intro (k, bs) rfl rfl ⟨hb1, hb2, by show bs.length + k ≤ 301; omega, hb4⟩ (Nat.lt_succ_self k)
      · obtain rfl : s = n := by omega
        have c1 : ¬ (s : Int) < s := by omega
        rw [← hbest] at hS
        simp only [c1, Qs, if_true, Nat.reduceBEq, vv f41r1.eq_1, uu f41b2.eq_1, uu f41b65.eq_1, uu f41b66.eq_1, vv f41r67.eq_1, uu f41b68.eq_1]
        cases best with
        | nil =>
          simp only [bstV, bstO, Qs, if_true, List.nodup_nil, List.nodup_cons, List.not_mem_nil]
          exact hS _ rfl
        | cons b0 bt =>
          simp only [bstV, bstO, Qs, if_true, List.nodup_nil, List.nodup_cons, Nat.reduceBEq, List.not_mem_nil]
          exact hS _ (by simp [V.fz, V.nrm, Abs.K.fz, Abs.K.nrm, norm_list])
end Go.Abs


set_option maxRecDepth 100000
namespace Go.Abs
def wlk (E : Int → Int → Prop) (s : Int) : Nat → Int → Prop
  | 0, x => x = s
  | k + 1, x => ∃ b, E x b ∧ (b > s ∨ k = 0) ∧ wlk E s k b
theorem getI_set {l : List Int} {a x v : Int} (ha : 0 ≤ a) (hl : a.toNat < l.length) (hx : 0 ≤ x) : getI (l.set a.toNat v) x = if x = a then v else getI l x := by
  unfold getI
  rw [List.getD_eq_getElem?_getD, List.getElem?_set]
  by_cases h : x = a
  · subst h; simp [hl]
  · have : a.toNat ≠ x.toNat := by omega
    simp [h, this]
structure BI (E : Int → Int → Prop) (n : Nat) (s : Int) (far q : List Int) (b fb : Int) : Prop where
  len : far.length = n
  qr : ∀ a ∈ q, 0 ≤ a ∧ a < n ∧ fb ≤ getI far a
  sound : ∀ x : Int, 0 ≤ x → x < n → getI far x ≠ 0 → ∃ k : Nat, getI far x = (k : Int) + 1 ∧ wlk E s k x ∧ (x > s ∨ k = 0)
  closed : ∀ x : Int, 0 ≤ x → x < n → getI far x ≠ 0 → x ∈ q ∨ x = b ∨ ∀ a, E a x → a > s → getI far a ≠ 0 ∧ getI far a ≤ getI far x + 1
  sorted : q.Pairwise fun x y => getI far x ≤ getI far y
  top : ∀ x : Int, 0 ≤ x → x < n → getI far x ≤ fb + 1
  fbb : getI far b = fb
  fb1 : 1 ≤ fb
theorem bfsIn_BI {E : Int → Int → Prop} {n : Nat} {s b fb : Int} (hE : ∀ x y, E x y → 0 ≤ x ∧ x < n ∧ 0 ≤ y ∧ y < n) (hb : 0 ≤ b ∧ b < n) : ∀ (L far q : List Int), (∀ a ∈ L, E a b) → BI E n s far q b fb →
    BI E n s (bfsIn s b L far q).1 (bfsIn s b L far q).2 b fb ∧ (∀ a ∈ L, a > s → getI (bfsIn s b L far q).1 a ≠ 0) ∧ (∀ x : Int, 0 ≤ x → getI far x ≠ 0 → getI (bfsIn s b L far q).1 x = getI far x) ∧
      zeros (bfsIn s b L far q).1 + (bfsIn s b L far q).2.length = zeros far + q.length
  | [], far, q, _, h => ⟨h, fun a ha => absurd ha (by simp), fun _ _ _ => rfl, rfl⟩
  | a :: L, far, q, hL, h => by
    have hab := hL a List.mem_cons_self
    obtain ⟨ha0, han, _, _⟩ := hE a b hab
    have hL' : ∀ x ∈ L, E x b := fun x hx => hL x (List.mem_cons_of_mem _ hx)
    rw [bfsIn]
    by_cases hc : a > s ∧ getI far a = 0
    · rw [if_pos hc]
      have hal : a.toNat < far.length := by rw [h.len]; omega
      have hg := fun x hx => getI_set (l := far) (a := a) (x := x) (v := getI far b + 1) ha0 hal hx
      have hab2 : b ≠ a := fun e => by have := h.fbb; rw [e, hc.2] at this; have := h.fb1; omega
      have hnew : BI E n s (far.set a.toNat (getI far b + 1)) (q ++ [a]) b fb := by
        have hfb := h.fbb
        refine ⟨by rw [List.length_set]; exact h.len, fun x hx => ?_, fun x h0 h1 hx => ?_, fun x h0 h1 hx => ?_, ?_, fun x h0 h1 => ?_, ?_, h.fb1⟩
        · rcases List.mem_append.1 hx with hx | hx
          · obtain ⟨q1, q2, q3⟩ := h.qr x hx
            refine ⟨q1, q2, ?_⟩
            rw [hg x q1]; split
            · omega
            · exact q3
          · rw [List.mem_singleton] at hx; subst hx
            refine ⟨ha0, han, ?_⟩
            rw [hg x ha0, if_pos rfl]; omega
        · rw [hg x h0] at hx ⊢
          by_cases e : x = a
          · rw [if_pos e]; subst e
            obtain ⟨k, hk1, hk2, hk3⟩ := h.sound b hb.1 hb.2 (by have := h.fb1; omega)
            refine ⟨k + 1, by rw [hk1]; push_cast; rfl, ⟨b, hab, hk3, hk2⟩, .inl hc.1⟩
          · rw [if_neg e] at hx ⊢
            exact h.sound x h0 h1 hx
        · rw [hg x h0] at hx
          by_cases e : x = a
          · subst e; exact .inl (by simp)
          · rw [if_neg e] at hx
            rcases h.closed x h0 h1 hx with c | c | c
            · exact .inl (List.mem_append_left _ c)
            · exact .inr (.inl c)
            · refine .inr (.inr fun y hy hys => ?_)
              obtain ⟨c1, c2⟩ := c y hy hys
              rw [hg y (hE _ _ hy).1, hg x h0, if_neg e, if_neg (fun e2 => c1 (by rw [e2]; exact hc.2))]
              exact ⟨c1, c2⟩
        · rw [List.pairwise_append]
          refine ⟨?_, List.pairwise_singleton _ _, fun x hx y hy => ?_⟩
          · refine List.Pairwise.imp_of_mem ?_ h.sorted
            intro x y hx hy hxy
            obtain ⟨x1, _, x3⟩ := h.qr x hx
            obtain ⟨y1, _, y3⟩ := h.qr y hy
            have := h.fb1
            rw [hg x x1, hg y y1, if_neg (fun e => by rw [e, hc.2] at x3; omega), if_neg (fun e => by rw [e, hc.2] at y3; omega)]
            exact hxy
          · rw [List.mem_singleton] at hy; subst hy
            obtain ⟨x1, x2, x3⟩ := h.qr x hx
            have := h.fb1
            rw [hg x x1, hg y ha0, if_neg (fun e => by rw [e, hc.2] at x3; omega), if_pos rfl, hfb]
            exact h.top x x1 x2
        · rw [hg x h0]; split
          · omega
          · exact h.top x h0 h1
        · rw [hg b hb.1, if_neg hab2]; exact hfb
      obtain ⟨i1, i2, i3, i4⟩ := bfsIn_BI hE hb L _ _ hL' hnew
      have hfa : getI (far.set a.toNat (getI far b + 1)) a ≠ 0 := by
        rw [hg a ha0, if_pos rfl, h.fbb]; have := h.fb1; omega
      refine ⟨i1, fun x hx hxs => ?_, fun x h0 hx => ?_, ?_⟩
      · rcases List.mem_cons.1 hx with e | hx
        · subst e
          rw [i3 x ha0 hfa]; exact hfa
        · exact i2 x hx hxs
      · have e : x ≠ a := fun e => hx (by rw [e]; exact hc.2)
        have := hg x h0
        rw [if_neg e] at this
        rw [i3 x h0 (by rw [this]; exact hx), this]
      · rw [i4, List.length_append, List.length_singleton]
        have := zeros_set far a.toNat (getI far b + 1) hal hc.2 (by rw [h.fbb]; have := h.fb1; omega)
        omega
    · rw [if_neg hc]
      obtain ⟨i1, i2, i3, i4⟩ := bfsIn_BI hE hb L _ _ hL' h
      refine ⟨i1, fun x hx hxs => ?_, i3, i4⟩
      rcases List.mem_cons.1 hx with e | hx
      · subst e
        have hfx : getI far x ≠ 0 := fun e => hc ⟨hxs, e⟩
        rw [i3 x ha0 hfx]; exact hfx
      · exact i2 x hx hxs
structure BS (E : Int → Int → Prop) (n : Nat) (s : Int) (far q : List Int) : Prop where
  len : far.length = n
  qr : ∀ a ∈ q, 0 ≤ a ∧ a < n ∧ getI far a ≠ 0
  sound : ∀ x : Int, 0 ≤ x → x < n → getI far x ≠ 0 → ∃ k : Nat, getI far x = (k : Int) + 1 ∧ wlk E s k x ∧ (x > s ∨ k = 0)
  closed : ∀ x : Int, 0 ≤ x → x < n → getI far x ≠ 0 → x ∈ q ∨ ∀ a, E a x → a > s → getI far a ≠ 0 ∧ getI far a ≤ getI far x + 1
  sorted : q.Pairwise fun x y => getI far x ≤ getI far y
  top : ∀ b ∈ q.head?, ∀ x : Int, 0 ≤ x → x < n → getI far x ≤ getI far b + 1
  fs : getI far s = 1
theorem bfs_BS {E : Int → Int → Prop} {n : Nat} {s : Int} {back : List (List Int)} (h0s : 0 ≤ s) (hE : ∀ x y, E x y → 0 ≤ x ∧ x < n ∧ 0 ≤ y ∧ y < n) (hbk : ∀ b : Int, 0 ≤ b → b < n → ∀ a, a ∈ back.getD b.toNat [] ↔ E a b) :
    ∀ (k : Nat) (far q : List Int), zeros far + q.length ≤ k → BS E n s far q → BS E n s (bfs back s k far q) []
  | 0, far, q, hk, h => by
    have : q = [] := List.eq_nil_of_length_eq_zero (by omega)
    subst this; exact h
  | k + 1, far, [], _, h => h
  | k + 1, far, b :: q, hk, h => by
    rw [bfs]
    obtain ⟨b0, bn, bne⟩ := h.qr b List.mem_cons_self
    obtain ⟨kb, hkb, _⟩ := h.sound b b0 bn bne
    have hp := List.pairwise_cons.1 h.sorted
    have hBI : BI E n s far q b (getI far b) := ⟨h.len, fun a ha => let ⟨q1, q2, _⟩ := h.qr a (List.mem_cons_of_mem _ ha); ⟨q1, q2, hp.1 a ha⟩, h.sound, fun x x0 xn hx => by
        rcases h.closed x x0 xn hx with c | c
        · rcases List.mem_cons.1 c with c | c
          · exact .inr (.inl c)
          · exact .inl c
        · exact .inr (.inr c), hp.2, h.top b rfl, rfl, by omega⟩
    obtain ⟨i1, i2, i3, i4⟩ := bfsIn_BI hE ⟨b0, bn⟩ (back.getD b.toNat []) far q (fun a ha => (hbk b b0 bn a).1 ha) hBI
    refine bfs_BS h0s hE hbk k _ _ (by rw [i4]; simp only [List.length_cons] at hk; omega) ?_
    refine ⟨i1.len, fun a ha => let ⟨q1, q2, q3⟩ := i1.qr a ha; ⟨q1, q2, by omega⟩, i1.sound, fun x x0 xn hx => ?_, i1.sorted, fun c hc x x0 xn => ?_, by rw [i3 s h0s (by rw [h.fs]; decide)]; exact h.fs⟩
    · rcases i1.closed x x0 xn hx with c | c | c
      · exact .inl c
      · refine .inr fun a ha has => ?_
        subst c
        have h1 := i2 a ((hbk x x0 xn a).2 ha) has
        refine ⟨h1, ?_⟩
        rw [i1.fbb]
        exact i1.top a (hE _ _ ha).1 (hE _ _ ha).2.1
      · exact .inr c
    · have hc' : c ∈ (bfsIn s b (back.getD b.toNat []) far q).2 := List.mem_of_mem_head? hc
      have := (i1.qr c hc').2.2
      have := i1.top x x0 xn
      omega
theorem steps_right {E : Int → Int → Prop} {n s : Nat} {back : List (List Int)} (hs : s < n) (hE : ∀ x y, E x y → 0 ≤ x ∧ x < n ∧ 0 ≤ y ∧ y < n) (hbk : ∀ b : Int, 0 ≤ b → b < n → ∀ a, a ∈ back.getD b.toNat [] ↔ E a b) :
    (stepsG back s n).length = n ∧ getI (stepsG back s n) s = 1 ∧
    (∀ x : Int, 0 ≤ x → x < n → getI (stepsG back s n) x ≠ 0 → ∃ k : Nat, getI (stepsG back s n) x = (k : Int) + 1 ∧ wlk E s k x ∧ (x > s ∨ k = 0)) ∧
    (∀ (k : Nat) x, wlk E s k x → (x > s ∨ k = 0) → getI (stepsG back s n) x ≠ 0 ∧ getI (stepsG back s n) x ≤ (k : Int) + 1) := by
  have hz0 : zeros (List.replicate n (0 : Int)) = n := by unfold zeros; rw [List.filter_replicate]; simp
  have hz := zeros_set (List.replicate n (0 : Int)) s 1 (by simpa using hs) (by simp [List.getD, hs]) (by decide)
  have hg : ∀ x : Int, 0 ≤ x → getI ((List.replicate n (0 : Int)).set s 1) x = if x = s then 1 else 0 := by
    intro x hx
    have h := getI_set (l := List.replicate n (0 : Int)) (a := s) (x := x) (v := 1) (by omega) (by simpa using hs) hx
    rw [show ((s : Int)).toNat = s from rfl] at h
    rw [h]
    split
    · rfl
    · unfold getI; rw [List.getD_eq_getElem?_getD, List.getElem?_replicate]; split <;> rfl
  have h := bfs_BS (s := s) (by omega) hE hbk n ((List.replicate n (0 : Int)).set s 1) [(s : Int)] (by simp only [List.length_singleton]; omega)
    ⟨by simp, fun a ha => by rw [List.mem_singleton] at ha; subst ha; exact ⟨by omega, by omega, by rw [hg _ (by omega), if_pos rfl]; decide⟩, fun x x0 xn hx => by
      rw [hg x x0] at hx ⊢
      by_cases e : x = s
      · rw [if_pos e]; exact ⟨0, rfl, e, .inr rfl⟩
      · rw [if_neg e] at hx; exact absurd rfl hx, fun x x0 xn hx => by
      rw [hg x x0] at hx
      by_cases e : x = s
      · exact .inl (by rw [e]; exact List.mem_singleton_self _)
      · rw [if_neg e] at hx; exact absurd rfl hx, List.pairwise_singleton _ _, fun b hb x x0 xn => by
      simp only [List.head?_cons, Option.mem_def, Option.some.injEq] at hb
      subst hb
      rw [hg x x0, hg _ (by omega), if_pos rfl]; split <;> omega, by rw [hg _ (by omega), if_pos rfl]⟩
  refine ⟨h.len, h.fs, h.sound, ?_⟩
  have hcl : ∀ x : Int, 0 ≤ x → x < n → getI (stepsG back s n) x ≠ 0 → ∀ a, E a x → a > s → getI (stepsG back s n) a ≠ 0 ∧ getI (stepsG back s n) a ≤ getI (stepsG back s n) x + 1 := fun x x0 xn hx => by
    rcases h.closed x x0 xn hx with c | c
    · exact absurd c (by simp)
    · exact c
  intro k
  induction k with
  | zero =>
    intro x hx _
    have hx : x = s := hx
    subst hx
    have hfs : getI (stepsG back s n) s = 1 := h.fs
    rw [hfs]; exact ⟨by decide, by decide⟩
  | succ k ih =>
    rintro x ⟨b, hxb, hbs, hb⟩ hxs
    obtain ⟨e1, e2⟩ := ih b hb hbs
    obtain ⟨_, _, b0, bn⟩ := hE x b hxb
    obtain ⟨f1, f2⟩ := hcl b b0 bn e1 x hxb (by rcases hxs with h | h; exact h; omega)
    refine ⟨f1, by push_cast; omega⟩
end Go.Abs


set_option maxRecDepth 100000
namespace Go.Abs
def upto (f : Int → List Int) : Nat → Int → List Int
  | 0, _ => []
  | m + 1, b => if f b ≠ [] then f b else upto f m (b + 1)
def lastI (l : List Int) : Int := l.getD (l.length - 1) 0
def headI (l : List Int) : Int := l.getD 0 0
def closeR (e : Int → Int → Bool) (n : Nat) : Nat → List Int → List Int
  | 0, l => if e (lastI l) (headI l) = true then l else []
  | k + 1, l => upto (fun b => if e (lastI l) b = true then closeR e n k (l ++ [b]) else []) ((n : Int) - (headI l + 1)).toNat (headI l + 1)
def cycR (e : Int → Int → Bool) (n : Nat) : List Int := upto (fun len => upto (fun a => closeR e n (len.toNat - 1) [a]) n 0) n 1
theorem upto_some {f : Int → List Int} : ∀ {m : Nat} {b : Int}, upto f m b ≠ [] → ∃ i, b ≤ i ∧ i < b + m ∧ f i ≠ [] ∧ (∀ j, b ≤ j → j < i → f j = []) ∧ upto f m b = f i
  | 0, b, h => absurd rfl h
  | m + 1, b, h => by
    rw [upto] at h ⊢
    by_cases hb : f b ≠ []
    · rw [if_pos hb] at h ⊢
      exact ⟨b, Int.le_refl _, by omega, hb, fun j h1 h2 => by omega, rfl⟩
    · rw [if_neg hb] at h ⊢
      obtain ⟨i, h1, h2, h3, h4, h5⟩ := upto_some h
      refine ⟨i, by omega, by push_cast; omega, h3, fun j j1 j2 => ?_, h5⟩
      by_cases e : j = b
      · subst e; exact Classical.not_not.1 hb
      · exact h4 j (by omega) j2
theorem upto_ne {f : Int → List Int} : ∀ {m : Nat} {b i : Int}, b ≤ i → i < b + m → f i ≠ [] → upto f m b ≠ []
  | 0, b, i, h1, h2, _ => by omega
  | m + 1, b, i, h1, h2, h3 => by
    rw [upto]
    by_cases hb : f b ≠ []
    · rw [if_pos hb]; exact hb
    · rw [if_neg hb]
      by_cases e : b = i
      · subst e; exact absurd h3 hb
      · exact upto_ne (by omega) (by push_cast at h2; omega) h3
theorem upto_at {f : Int → List Int} : ∀ {m : Nat} {b i : Int}, b ≤ i → i < b + m → f i ≠ [] → (∀ j, b ≤ j → j < i → f j = []) → upto f m b = f i
  | 0, b, i, h1, h2, _, _ => by omega
  | m + 1, b, i, h1, h2, h3, h4 => by
    rw [upto]
    by_cases e : b = i
    · subst e; rw [if_pos h3]
    · rw [if_neg (by rw [h4 b (Int.le_refl _) (by omega)]; simp)]
      exact upto_at (by omega) (by push_cast at h2; omega) h3 (fun j j1 j2 => h4 j (by omega) j2)
theorem upto_none {f : Int → List Int} {m : Nat} {b : Int} (h : ∀ j, b ≤ j → j < b + m → f j = []) : upto f m b = [] := by
  refine Classical.byContradiction fun hn => ?_
  obtain ⟨i, h1, h2, h3, _, _⟩ := upto_some hn
  exact h3 (h i h1 h2)
theorem lastI_snoc (l : List Int) (b : Int) : lastI (l ++ [b]) = b := by
  unfold lastI
  rw [List.length_append, List.length_singleton, List.getD_eq_getElem?_getD, List.getElem?_append_right (by omega)]
  simp
theorem headI_snoc {l : List Int} (h : l ≠ []) (b : Int) : headI (l ++ [b]) = headI l := by
  cases l with
  | nil => exact absurd rfl h
  | cons a l => rfl
theorem closeR_iff {e : Int → Int → Bool} {n : Nat} (hE : ∀ x y, e x y = true → 0 ≤ x ∧ x < n ∧ 0 ≤ y ∧ y < n) : ∀ (k : Nat) (l : List Int), l ≠ [] → (closeR e n k l ≠ [] ↔ wlk (fun x y => e x y = true) (headI l) (k + 1) (lastI l))
  | 0, l, hl => by
    rw [closeR]
    constructor
    · intro h
      by_cases c : e (lastI l) (headI l) = true
      · exact ⟨headI l, c, .inr rfl, rfl⟩
      · rw [if_neg c] at h; exact absurd rfl h
    · rintro ⟨b, h1, _, h3⟩
      have h3 : b = headI l := h3
      subst h3
      rw [if_pos h1]; exact hl
  | k + 1, l, hl => by
    rw [closeR]
    constructor
    · intro h
      obtain ⟨i, h1, h2, h3, _, _⟩ := upto_some h
      by_cases c : e (lastI l) i = true
      · rw [if_pos c] at h3
        have := (closeR_iff hE k (l ++ [i]) (by simp)).1 h3
        rw [headI_snoc hl, lastI_snoc] at this
        exact ⟨i, c, .inl (by omega), this⟩
      · rw [if_neg c] at h3; exact absurd rfl h3
    · rintro ⟨b, h1, h2, h3⟩ hn
      have hb : b > headI l := by rcases h2 with h | h; exact h; omega
      have hf : (if e (lastI l) b = true then closeR e n k (l ++ [b]) else []) ≠ [] := by
        rw [if_pos h1]
        refine (closeR_iff hE k (l ++ [b]) (by simp)).2 ?_
        rw [headI_snoc hl, lastI_snoc]; exact h3
      obtain ⟨_, _, _, bn⟩ := hE _ _ h1
      exact upto_ne (f := fun b => if e (lastI l) b = true then closeR e n k (l ++ [b]) else []) (i := b) (by omega) (by omega) hf hn
theorem closeR_len {e : Int → Int → Bool} {n : Nat} : ∀ (k : Nat) (l : List Int), l ≠ [] → closeR e n k l ≠ [] → (closeR e n k l).length = l.length + k ∧ l <+: closeR e n k l
  | 0, l, _, h => by
    rw [closeR] at h ⊢
    split at h
    · rename_i c; rw [if_pos c]; exact ⟨rfl, List.prefix_refl _⟩
    · exact absurd rfl h
  | k + 1, l, hl, h => by
    rw [closeR] at h ⊢
    obtain ⟨i, h1, h2, h3, _, h5⟩ := upto_some h
    rw [h5]
    by_cases c : e (lastI l) i = true
    · rw [if_pos c] at h3 ⊢
      obtain ⟨i1, i3⟩ := closeR_len k (l ++ [i]) (by simp) h3
      exact ⟨by rw [i1]; simp; omega, List.IsPrefix.trans (List.prefix_append _ _) i3⟩
    · rw [if_neg c] at h3; exact absurd rfl h3
theorem findB_first {s left : Int} {far : List Int} : ∀ {t : List Int} {b : Int}, t.Pairwise (· < ·) → b ∈ t → b > s → getI far b = left → (∀ c ∈ t, c > s → getI far c = left → b ≤ c) → findB s far left t = some b
  | [], _, _, h, _, _, _ => absurd h (by simp)
  | a :: t, b, hp, hm, h1, h2, h3 => by
    rw [findB]
    obtain ⟨hp1, hp2⟩ := List.pairwise_cons.1 hp
    by_cases c : a > s ∧ getI far a = left
    · rw [if_pos c]
      have := h3 a List.mem_cons_self c.1 c.2
      rcases List.mem_cons.1 hm with e | e
      · rw [e]
      · have := hp1 b e; omega
    · rw [if_neg c]
      rcases List.mem_cons.1 hm with e | e
      · subst e; exact absurd ⟨h1, h2⟩ c
      · exact findB_first hp2 e h1 h2 (fun c hc => h3 c (List.mem_cons_of_mem _ hc))
structure FarOk (E : Int → Int → Prop) (N : Nat) (s : Int) (far : List Int) : Prop where
  fs : getI far s = 1
  sound : ∀ x : Int, 0 ≤ x → x < N → getI far x ≠ 0 → ∃ k : Nat, getI far x = (k : Int) + 1 ∧ wlk E s k x ∧ (x > s ∨ k = 0)
  least : ∀ (k : Nat) (x : Int), wlk E s k x → (x > s ∨ k = 0) → getI far x ≠ 0 ∧ getI far x ≤ (k : Int) + 1
theorem path_eq {e : Int → Int → Bool} {n N : Nat} {s : Int} {far : List Int} {to : List (List Int)} (hnN : n ≤ N) (hE : ∀ x y, e x y = true → 0 ≤ x ∧ x < n ∧ 0 ≤ y ∧ y < n) (hto : ∀ x : Int, 0 ≤ x → x < N → (∀ a, a ∈ to.getD x.toNat [] ↔ e x a = true) ∧ (to.getD x.toNat []).Pairwise (· < ·))
    (hf : FarOk (fun x y => e x y = true) N s far) : ∀ (k : Nat) (l : List Int), l ≠ [] → headI l = s → wlk (fun x y => e x y = true) s (k + 1) (lastI l) → (∀ j : Nat, wlk (fun x y => e x y = true) s (j + 1) (lastI l) → k ≤ j) → pathG to s far k l = closeR e n k l
  | 0, l, hl, hs, hw, _ => by
    rw [pathG, closeR]
    obtain ⟨b, h1, _, h3⟩ := hw
    have h3 : b = s := h3
    rw [if_pos (by rw [hs, ← h3]; exact h1)]
  | k + 1, l, hl, hs, hw, hm => by
    have hne := (closeR_iff hE (k + 1) l hl).2 (by rw [hs]; exact hw)
    rw [closeR] at hne
    obtain ⟨i, h1, h2, h3, h4, h5⟩ := upto_some hne
    rw [closeR, h5]
    have hei : e (lastI l) i = true := by
      by_cases c : e (lastI l) i = true
      · exact c
      · rw [if_neg c] at h3; exact absurd rfl h3
    rw [if_pos hei] at h3 ⊢
    obtain ⟨x0, xn, i0, iN⟩ := hE _ _ hei
    have hwi : wlk (fun x y => e x y = true) s (k + 1) i := by
      have := (closeR_iff hE k (l ++ [i]) (by simp)).1 h3
      rwa [headI_snoc hl, lastI_snoc, hs] at this
    have hfar : ∀ b, e (lastI l) b = true → b > s → (getI far b = (k : Int) + 2 ↔ wlk (fun x y => e x y = true) s (k + 1) b) := by
      intro b hb hbs
      obtain ⟨_, _, b0, bn⟩ := hE _ _ hb
      constructor
      · intro hk
        obtain ⟨j, j1, j2, _⟩ := hf.sound b b0 (by omega) (by omega)
        have : j = k + 1 := by omega
        rwa [this] at j2
      · intro hk
        obtain ⟨f1, f2⟩ := hf.least (k + 1) b hk (.inl hbs)
        obtain ⟨j, j1, j2, j3⟩ := hf.sound b b0 (by omega) f1
        have hj : j ≠ 0 := by
          intro e0; subst e0
          have : b = s := j2
          omega
        have := hm j ⟨b, hb, .inl hbs, j2⟩
        push_cast at f2
        omega
    obtain ⟨t1, t2⟩ := hto (lastI l) x0 (by omega)
    have hfind : findB s far ((k : Int) + 2) (to.getD (lastI l).toNat []) = some i := by
      refine findB_first t2 ((t1 i).2 hei) (by omega) ((hfar i hei (by omega)).2 hwi) fun c hc hcs hcl => ?_
      have hec := (t1 c).1 hc
      have hwc := (hfar c hec hcs).1 hcl
      refine Classical.byContradiction fun hn => ?_
      have := h4 c (by omega) (by omega)
      rw [if_pos hec] at this
      exact (closeR_iff hE k (l ++ [c]) (by simp)).2 (by rw [headI_snoc hl, lastI_snoc, hs]; exact hwc) this
    have hg : growB to s far ((k : Int) + 2) l = l ++ [i] := by
      unfold growB
      rw [show l.getD (l.length - 1) 0 = lastI l from rfl, hfind]
    rw [pathG, hg]
    refine path_eq hnN hE hto hf k (l ++ [i]) (by simp) (by rw [headI_snoc hl, hs]) (by rw [lastI_snoc]; exact hwi) fun j hj => ?_
    rw [lastI_snoc] at hj
    have := hm (j + 1) ⟨i, hei, .inl (by omega), hj⟩
    omega
theorem leastIn_spec {s : Int} {far : List Int} : ∀ (t : List Int) (least : Int), 0 ≤ least → ((leastIn s far t least = 0 ↔ least = 0 ∧ ∀ b ∈ t, ¬ (b ≥ s ∧ getI far b > 0)) ∧ 0 ≤ leastIn s far t least ∧ (leastIn s far t least ≠ 0 → (leastIn s far t least = least ∨ ∃ b ∈ t, b ≥ s ∧ getI far b = leastIn s far t least)
      ∧ (least ≠ 0 → leastIn s far t least ≤ least) ∧ ∀ b ∈ t, b ≥ s → getI far b > 0 → leastIn s far t least ≤ getI far b))
  | [], least, h0 => ⟨⟨fun h => ⟨h, fun _ h => absurd h (by simp)⟩, fun h => h.1⟩, h0, fun _ => ⟨.inl rfl, fun _ => Int.le_refl _, fun _ h => absurd h (by simp)⟩⟩
  | a :: t, least, h0 => by
    rw [leastIn]
    by_cases c : a ≥ s ∧ getI far a > 0 ∧ (least = 0 ∨ getI far a < least)
    · rw [if_pos c]
      obtain ⟨i1, i2, i3⟩ := leastIn_spec (s := s) (far := far) t (getI far a) (by omega)
      refine ⟨⟨fun h => absurd (i1.1 h).1 (by omega), fun h => absurd ⟨c.1, c.2.1⟩ (h.2 a List.mem_cons_self)⟩, i2, fun h => ?_⟩
      obtain ⟨j1, j2, j3⟩ := i3 h
      refine ⟨.inr ?_, fun hl => ?_, fun b hb h1 h2 => ?_⟩
      · rcases j1 with e | ⟨b, hb, h1, h2⟩
        · exact ⟨a, List.mem_cons_self, c.1, e.symm⟩
        · exact ⟨b, List.mem_cons_of_mem _ hb, h1, h2⟩
      · clear j1 j3
        have := j2 (by omega); omega
      · rcases List.mem_cons.1 hb with e | hb
        · subst e; exact j2 (by omega)
        · exact j3 b hb h1 h2
    · rw [if_neg c]
      obtain ⟨i1, i2, i3⟩ := leastIn_spec (s := s) (far := far) t least h0
      refine ⟨⟨fun h => ⟨(i1.1 h).1, fun b hb => ?_⟩, fun h => i1.2 ⟨h.1, fun b hb => h.2 b (List.mem_cons_of_mem _ hb)⟩⟩, i2, fun h => ?_⟩
      · rcases List.mem_cons.1 hb with e | hb
        · subst e; exact fun h2 => c ⟨h2.1, h2.2, .inl (i1.1 h).1⟩
        · exact (i1.1 h).2 b hb
      · obtain ⟨j1, j2, j3⟩ := i3 h
        refine ⟨?_, j2, fun b hb h1 h2 => ?_⟩
        · rcases j1 with e | ⟨b, hb, h1, h2⟩
          · exact .inl e
          · exact .inr ⟨b, List.mem_cons_of_mem _ hb, h1, h2⟩
        · rcases List.mem_cons.1 hb with e | hb
          · subst e
            by_cases l0 : least = 0
            · exact absurd ⟨h1, h2, .inl l0⟩ c
            · have := j2 l0
              refine Classical.byContradiction fun hn => c ⟨h1, h2, .inr (by omega)⟩
          · exact j3 b hb h1 h2
theorem least_circle {e : Int → Int → Bool} {N : Nat} {s : Int} {far t : List Int} (hE : ∀ x y, e x y = true → 0 ≤ x ∧ x < N ∧ 0 ≤ y ∧ y < N) (ht : ∀ a, a ∈ t ↔ e s a = true) (hf : FarOk (fun x y => e x y = true) N s far) :
    (leastIn s far t 0 = 0 ∧ ∀ k : Nat, ¬ wlk (fun x y => e x y = true) s (k + 1) s) ∨ ∃ k : Nat, leastIn s far t 0 = (k : Int) + 1 ∧ wlk (fun x y => e x y = true) s (k + 1) s ∧ ∀ j : Nat, wlk (fun x y => e x y = true) s (j + 1) s → k ≤ j := by
  obtain ⟨h1, h2, h3⟩ := leastIn_spec (s := s) (far := far) t 0 (Int.le_refl _)
  have hwk : ∀ k : Nat, wlk (fun x y => e x y = true) s (k + 1) s → ∃ b ∈ t, b ≥ s ∧ getI far b > 0 ∧ getI far b ≤ (k : Int) + 1 := by
    rintro k ⟨b, hb, hbs, hbw⟩
    obtain ⟨_, _, b0, bn⟩ := hE _ _ hb
    obtain ⟨f1, f2⟩ := hf.least k b hbw hbs
    obtain ⟨j, j1, _⟩ := hf.sound b b0 bn f1
    refine ⟨b, (ht b).2 hb, ?_, by omega, f2⟩
    rcases hbs with h | h
    · omega
    · subst h
      have : b = s := hbw
      omega
  by_cases h0 : leastIn s far t 0 = 0
  · refine .inl ⟨h0, fun k hk => ?_⟩
    obtain ⟨b, hb, hbs, hb1, _⟩ := hwk k hk
    exact (h1.1 h0).2 b hb ⟨hbs, hb1⟩
  · obtain ⟨j1, _, j3⟩ := h3 h0
    rcases j1 with e0 | ⟨b, hb, hbs, hbl⟩
    · exact absurd e0 h0
    obtain ⟨_, _, b0, bn⟩ := hE _ _ ((ht b).1 hb)
    obtain ⟨k, k1, k2, k3⟩ := hf.sound b b0 bn (by rw [hbl]; exact h0)
    refine .inr ⟨k, by rw [← hbl, k1], ⟨b, (ht b).1 hb, k3, k2⟩, fun j hj => ?_⟩
    obtain ⟨c, hc, hcs, hc1, hc2⟩ := hwk j hj
    have := j3 c hc hcs hc1
    omega
theorem circle_le {e : Int → Int → Bool} {n : Nat} {s : Int} {k : Nat} (hE : ∀ x y, e x y = true → 0 ≤ x ∧ x < n ∧ 0 ≤ y ∧ y < n) (h : wlk (fun x y => e x y = true) s (k + 1) s) : ∃ j : Nat, j + 1 ≤ n ∧ wlk (fun x y => e x y = true) s (j + 1) s := by
  obtain ⟨b, hb, hbs, hbw⟩ := h
  obtain ⟨s0, sn, b0, bn⟩ := hE _ _ hb
  let back : List (List Int) := (List.range n).map fun (i : Nat) => ((List.range n).map fun (a : Nat) => (a : Int)).filter fun a => e a (i : Int)
  have hat : ∀ b : Int, 0 ≤ b → b < n → back.getD b.toNat [] = ((List.range n).map fun (a : Nat) => (a : Int)).filter fun a => e a b := by
    intro b h0 h1
    have h2 : b.toNat < n := by omega
    simp only [back, List.getD_eq_getElem?_getD, List.getElem?_map, List.getElem?_range h2, Option.map_some, Option.getD_some]
    rw [show ((b.toNat : Nat) : Int) = b by omega]
  have hbk : ∀ b : Int, 0 ≤ b → b < n → ∀ a, a ∈ back.getD b.toNat [] ↔ (fun x y => e x y = true) a b := by
    intro b h0 h1 a
    rw [hat b h0 h1]
    simp only [List.mem_filter, List.mem_map, List.mem_range]
    constructor
    · rintro ⟨_, h⟩; exact h
    · intro h
      obtain ⟨a0, an, _, _⟩ := hE _ _ h
      exact ⟨⟨a.toNat, by omega, by omega⟩, h⟩
  have hs : s.toNat < n := by omega
  obtain ⟨q1, q2, q3, q4⟩ := steps_right hs (E := fun x y => e x y = true) hE hbk
  obtain ⟨_, hle⟩ := steps_facts hs (back := back) (fun x hx a ha => by
    obtain ⟨i, hi, rfl⟩ := List.mem_map.1 hx
    have ha := (List.mem_filter.1 ha).1
    simp only [List.mem_map, List.mem_range] at ha
    obtain ⟨c, hc, rfl⟩ := ha
    omega)
  have es : ((s.toNat : Nat) : Int) = s := by omega
  rw [es] at q2 q3 q4
  obtain ⟨f1, f2⟩ := q4 k b hbw hbs
  obtain ⟨j, j1, j2, j3⟩ := q3 b b0 bn f1
  refine ⟨j, ?_, b, hb, j3, j2⟩
  have := (hle b.toNat).2
  unfold getI at j1
  omega
theorem cycR_none {e : Int → Int → Bool} {n : Nat} (hE : ∀ x y, e x y = true → 0 ≤ x ∧ x < n ∧ 0 ≤ y ∧ y < n) (h : ∀ s, ∀ k : Nat, ¬ wlk (fun x y => e x y = true) s (k + 1) s) : cycR e n = [] := by
  refine upto_none fun len _ _ => upto_none fun a _ _ => ?_
  refine Classical.byContradiction fun hn => ?_
  exact h a _ ((closeR_iff hE _ [a] (by simp)).1 hn)
theorem cycR_some {e : Int → Int → Bool} {n : Nat} {a : Int} {k : Nat} (hE : ∀ x y, e x y = true → 0 ≤ x ∧ x < n ∧ 0 ≤ y ∧ y < n) (ha : wlk (fun x y => e x y = true) a (k + 1) a) (hmin : ∀ s, ∀ j : Nat, wlk (fun x y => e x y = true) s (j + 1) s → k ≤ j ∧ (s < a → k < j)) : cycR e n = closeR e n k [a] := by
  obtain ⟨b, hb, _⟩ := id ha
  obtain ⟨a0, an, _, _⟩ := hE _ _ hb
  have hk : k + 1 ≤ n := by
    obtain ⟨j, j1, j2⟩ := circle_le hE ha
    have := (hmin a j j2).1
    omega
  have hin : ∀ j : Nat, j < k → upto (fun a => closeR e n j [a]) n 0 = [] := fun j hj => upto_none fun x _ _ => by
    refine Classical.byContradiction fun hn => ?_
    have := (hmin x j ((closeR_iff hE _ [x] (by simp)).1 hn)).1
    omega
  have hat : upto (fun a => closeR e n k [a]) n 0 = closeR e n k [a] := upto_at a0 (by omega) ((closeR_iff hE k [a] (by simp)).2 ha) fun x _ hx => by
    refine Classical.byContradiction fun hn => ?_
    have := (hmin x k ((closeR_iff hE _ [x] (by simp)).1 hn)).2 hx
    omega
  have hne := (closeR_iff hE k [a] (by simp)).2 ha
  unfold cycR
  have key := upto_at (f := fun len : Int => upto (fun a => closeR e n (len.toNat - 1) [a]) n 0) (m := n) (b := 1) (i := (k : Int) + 1) (by omega) (by omega) (by
    show upto (fun a => closeR e n (((k : Int) + 1).toNat - 1) [a]) n 0 ≠ []
    rw [show ((k : Int) + 1).toNat - 1 = k by omega, hat]; exact hne) (fun j h1 h2 => by
    show upto (fun a => closeR e n (j.toNat - 1) [a]) n 0 = []
    exact hin _ (by omega))
  rw [key]
  show upto (fun a => closeR e n (((k : Int) + 1).toNat - 1) [a]) n 0 = _
  rw [show ((k : Int) + 1).toNat - 1 = k by omega, hat]
theorem cyc_eq {e : Int → Int → Bool} {n N : Nat} {to back : List (List Int)} (hnN : n ≤ N) (hE : ∀ x y, e x y = true → 0 ≤ x ∧ x < n ∧ 0 ≤ y ∧ y < n) (hto : ∀ x : Int, 0 ≤ x → x < N → (∀ a, a ∈ to.getD x.toNat [] ↔ e x a = true) ∧ (to.getD x.toNat []).Pairwise (· < ·))
    (hbk : ∀ b : Int, 0 ≤ b → b < N → ∀ a, a ∈ back.getD b.toNat [] ↔ e a b = true) : (List.range N).foldl (cycStep to back N) [] = cycR e n := by
  have hEN : ∀ x y, e x y = true → 0 ≤ x ∧ x < N ∧ 0 ≤ y ∧ y < N := fun x y h => by have := hE x y h; omega
  have inv : ∀ m, m ≤ N → ((List.range m).foldl (cycStep to back N) [] = [] ∧ ∀ s : Int, s < m → ∀ k : Nat, ¬ wlk (fun x y => e x y = true) s (k + 1) s) ∨
      ∃ (a : Int) (k : Nat), a < m ∧ (List.range m).foldl (cycStep to back N) [] = closeR e n k [a] ∧ wlk (fun x y => e x y = true) a (k + 1) a ∧ ∀ s : Int, s < m → ∀ j : Nat, wlk (fun x y => e x y = true) s (j + 1) s → k ≤ j ∧ (s < a → k < j) := by
    intro m
    induction m with
    | zero =>
      intro _
      refine .inl ⟨rfl, fun s hs k hk => ?_⟩
      obtain ⟨b, hb, _⟩ := hk
      have := (hE _ _ hb).1
      omega
    | succ m ih =>
      intro hm
      have ih := ih (by omega)
      rw [List.range_succ, List.foldl_append]
      generalize (List.range m).foldl (cycStep to back N) [] = best at ih
      obtain ⟨g1, g2, g3, g4⟩ := steps_right (n := N) (s := m) (by omega) (E := fun x y => e x y = true) hEN hbk
      have hf : FarOk (fun x y => e x y = true) N m (stepsG back m N) := ⟨g2, g3, g4⟩
      obtain ⟨t1, t2⟩ := hto m (by omega) (by omega)
      rw [show ((m : Int)).toNat = m from rfl] at t1 t2
      have hlc := least_circle hEN t1 hf
      simp only [List.foldl_cons, List.foldl_nil]
      unfold cycStep
      simp only []
      rcases hlc with ⟨l0, lno⟩ | ⟨r, lr, lw, lmin⟩
      · rw [if_pos (.inl l0)]
        rcases ih with ⟨i1, i2⟩ | ⟨a, k, ham, i1, i2, i3⟩
        · refine .inl ⟨i1, fun s hs k hk => ?_⟩
          by_cases es : s = m
          · subst es; exact lno k hk
          · exact i2 s (by push_cast at hs; omega) k hk
        · refine .inr ⟨a, k, by push_cast; omega, i1, i2, fun s hs j hj => ?_⟩
          by_cases es : s = m
          · subst es; exact absurd hj (lno j)
          · exact i3 s (by push_cast at hs; omega) j hj
      · have hpath : pathG to m (stepsG back m N) r [(m : Int)] = closeR e n r [(m : Int)] := path_eq hnN hE hto hf r [(m : Int)] (by simp) rfl lw lmin
        rcases ih with ⟨i1, i2⟩ | ⟨a, k, ham, i1, i2, i3⟩
        · rw [if_neg (by rw [lr, i1]; simp; omega), lr, show ((r : Int) + 1).toNat - 1 = r by omega, hpath]
          refine .inr ⟨m, r, by push_cast; omega, rfl, lw, fun s hs j hj => ?_⟩
          by_cases es : s = m
          · subst es; exact ⟨lmin j hj, fun h => by omega⟩
          · exact absurd hj (i2 s (by push_cast at hs; omega) j)
        · have hne := (closeR_iff hE k [a] (by simp)).2 i2
          have hlen := (closeR_len k [a] (by simp) hne).1
          rw [i1]
          by_cases hc : (r : Int) + 1 ≥ ((closeR e n k [a]).length : Int)
          · rw [if_pos (.inr ⟨hne, by rw [lr]; exact hc⟩)]
            rw [hlen] at hc
            simp only [List.length_singleton] at hc
            refine .inr ⟨a, k, by push_cast; omega, rfl, i2, fun s hs j hj => ?_⟩
            by_cases es : s = m
            · subst es
              have := lmin j hj
              exact ⟨by omega, fun h => by omega⟩
            · exact i3 s (by push_cast at hs; omega) j hj
          · rw [if_neg (by rw [lr]; rintro (h | h); omega; exact hc h.2), lr, show ((r : Int) + 1).toNat - 1 = r by omega, hpath]
            rw [hlen] at hc
            simp only [List.length_singleton] at hc
            refine .inr ⟨m, r, by push_cast; omega, rfl, lw, fun s hs j hj => ?_⟩
            by_cases es : s = m
            · subst es; exact ⟨lmin j hj, fun h => by omega⟩
            · have := i3 s (by push_cast at hs; omega) j hj
              exact ⟨by omega, fun _ => by omega⟩
  rcases inv N (Nat.le_refl _) with ⟨i1, i2⟩ | ⟨a, k, ham, i1, i2, i3⟩
  · rw [i1, cycR_none hE fun s k hk => ?_]
    obtain ⟨b, hb, _⟩ := id hk
    exact i2 s (by have := hEN _ _ hb; omega) k hk
  · rw [i1, cycR_some hE i2 fun s j hj => ?_]
    obtain ⟨b, hb, _⟩ := id hj
    exact i3 s (by have := hEN _ _ hb; omega) j hj
end Go.Abs


set_option maxRecDepth 100000
namespace Go.Abs
def minW (e : Int → Int → Bool) (s : Int) (k : Nat) (x : Int) : Prop := wlk (fun x y => e x y = true) s (k + 1) x ∧ ∀ j : Nat, wlk (fun x y => e x y = true) s (j + 1) x → k ≤ j
theorem minW.uniq {e : Int → Int → Bool} {s x : Int} {k k' : Nat} (h : minW e s k x) (h' : minW e s k' x) : k = k' := Nat.le_antisymm (h.2 _ h'.1) (h'.2 _ h.1)
def AccOk (l : List Dr) : Prop := ∀ i : Int, 0 ≤ i → i < l.length → (dat l i).c ≠ -1 → (dat l (dat l i).c).a = (dat l i).d
theorem dat_mem {l : List Dr} {i : Int} (h0 : 0 ≤ i) (hi : i < l.length) : dat l i ∈ l := by
  unfold dat
  rw [List.getD_eq_getElem?_getD, List.getElem?_eq_getElem (by omega), Option.getD_some]
  exact List.getElem_mem _
end Go.Abs


set_option maxRecDepth 100000
set_option maxHeartbeats 4000000
namespace Go.Abs
open Go.Proofs Go.RowKit
theorem chkL_zero {l : List Dr} : ∀ {r : List Dr} {i : Nat}, chkL l i r = 0 ↔ ∀ j (h : j < r.length), ¬ badA r[j] ∧ ¬ badY r[j] ∧ ¬ badC l (i + j : Nat) r[j]
  | [], i => ⟨fun _ j h => absurd h (by simp), fun _ => rfl⟩
  | x :: r, i => by
    rw [chkL]
    by_cases h1 : chk1 l i x = 0
    · rw [if_neg (by simpa using h1), chkL_zero]
      have hx : ¬ badA x ∧ ¬ badY x ∧ ¬ badC l i x := by
        unfold chk1 at h1
        by_cases a : badA x
        · rw [if_pos a] at h1; cases h1
        · rw [if_neg a] at h1
          by_cases b : badY x
          · rw [if_pos b] at h1; cases h1
          · rw [if_neg b] at h1
            by_cases c : badC l i x
            · rw [if_pos c] at h1; cases h1
            · exact ⟨a, b, c⟩
      constructor
      · intro h j hj
        cases j with
        | zero => exact hx
        | succ j =>
          have := h j (by simpa using hj)
          rw [show i + (j + 1) = i + 1 + j by omega]
          exact this
      · intro h j hj
        have := h (j + 1) (by simpa using hj)
        rw [show i + (j + 1) = i + 1 + j by omega] at this
        exact this
    · rw [if_pos (by simpa using h1)]
      refine ⟨fun h => absurd h h1, fun h => ?_⟩
      have := h 0 (by simp)
      refine absurd ?_ h1
      unfold chk1
      have e : (x :: r)[0] = x := rfl
      rw [e, Nat.add_zero] at this
      rw [if_neg this.1, if_neg this.2.1, if_neg this.2.2]
theorem chk_iff {l : List Dr} : chkG l = 0 ↔ l.length ≤ 100 ∧ ∀ i : Nat, i < l.length → ¬ badA (dat l i) ∧ ¬ badY (dat l i) ∧ ¬ badC l i (dat l i) := by
  unfold chkG
  by_cases h : (l.length : Int) > 100
  · rw [if_pos h]
    exact ⟨fun h => (by cases h), fun h2 => by omega⟩
  · rw [if_neg h, chkL_zero]
    constructor
    · intro h2
      refine ⟨by omega, fun i hi => ?_⟩
      have := h2 i hi
      rw [Nat.zero_add] at this
      rw [dat_nat hi]; exact this
    · rintro ⟨_, h2⟩ j hj
      have := h2 j hj
      rw [dat_nat hj] at this
      rw [Nat.zero_add]; exact this
structure RightD (l : List Dr) : Prop where
  len : l.length ≤ 100
  cov : CovOk l
  acc : AccOk l
  sum : SumOk l
  self : ∀ x ∈ l, x.d ≠ x.a
  firm : ∀ x ∈ l, 0 ≤ x.d ∧ x.d < 200 ∧ 0 ≤ x.a ∧ x.a < 200
theorem right_of {l : List Dr} (h : chkG l = 0) : RightD l := by
  obtain ⟨h1, h2⟩ := chk_iff.1 h
  have hm : ∀ x ∈ l, ¬ badA x := by
    intro x hx
    obtain ⟨i, hi, rfl⟩ := List.getElem_of_mem hx
    have := (h2 i hi).1
    rwa [dat_nat hi] at this
  have hc : ∀ i : Int, 0 ≤ i → i < l.length → ¬ badC l i (dat l i) := by
    intro i h0 hi
    have := (h2 i.toNat (by omega)).2.2
    rwa [show ((i.toNat : Nat) : Int) = i by omega] at this
  refine ⟨h1, fun i h0 hi => ?_, fun i h0 hi hn => ?_, fun x hx => ?_, fun x hx => ?_, fun x hx => ?_⟩
  · have := hc i h0 hi
    unfold badC at this
    omega
  · have := hc i h0 hi
    unfold badC at this
    omega
  · have := hm x hx
    unfold badA at this
    omega
  · have := hm x hx
    unfold badA at this
    intro e; exact this (.inr (.inr (.inl e)))
  · have := hm x hx
    unfold badA firmB at this
    simp only [decide_eq_false_iff_not] at this
    omega
theorem covS_snoc (l : List Dr) (x : Dr) (j : Int) : covS (l ++ [x]) j = covS l j + if x.c = j then x.s else 0 := by
  unfold covS
  rw [List.filter_append, List.map_append]
  by_cases h : x.c = j
  · simp only [List.filter_cons, h, decide_true, if_true, List.filter_nil, List.map_cons, List.map_nil, sumI_snoc]
  · simp [h]
theorem covS_take {l : List Dr} {i : Nat} (h : i < l.length) (j : Int) : covS (l.take (i + 1)) j = covS (l.take i) j + if (dat l i).c = j then (dat l i).s else 0 := by
  rw [List.take_succ_eq_append_getElem h, covS_snoc, dat_nat h]
def accO (l : List Dr) (i : Nat) : List Int := (List.range l.length).map fun (j : Nat) => (if j < i then (dat l j).s else 0) - covS (l.take i) j
theorem accO_len (l : List Dr) (i : Nat) : (accO l i).length = l.length := by simp [accO]
theorem accO_at {l : List Dr} {i j : Nat} (h : j < l.length) : (accO l i).getD j 0 = (if j < i then (dat l j).s else 0) - covS (l.take i) j := by simp [accO, h]
theorem accO_bound {l : List Dr} (hs : SumOk l) (hl : l.length ≤ 100) (i j : Nat) : -109951162777600 ≤ (accO l i).getD j 0 ∧ (accO l i).getD j 0 ≤ 1099511627776 := by
  by_cases h : j < l.length
  · rw [accO_at h]
    have h1 := covS_bound (l := l.take i) (fun x hx => hs x (List.mem_of_mem_take hx)) j
    have h2 := hs _ (dat_mem (l := l) (i := (j : Int)) (by omega) (by omega))
    have h3 : (l.take i).length ≤ 100 := by rw [List.length_take]; omega
    have h4 : ((l.take i).length : Int) * 1099511627776 ≤ 100 * 1099511627776 := Int.mul_le_mul_of_nonneg_right (by omega) (by omega)
    split <;> omega
  · rw [List.getD_eq_getElem?_getD, List.getElem?_eq_none (by rw [accO_len]; omega)]; simp
theorem accO_zero (l : List Dr) : accO l 0 = List.replicate l.length 0 := by
  apply List.ext_getElem
  · simp [accO]
  · intro j h1 h2
    simp [accO, covS, sumI]
theorem accO_next0 {l : List Dr} {i : Nat} (h : i < l.length) (hn : (dat l i).c = -1) : (accO l i).set i ((accO l i).getD i 0 + (dat l i).s) = accO l (i + 1) := by
  rw [accO_at h, if_neg (Nat.lt_irrefl i)]
  apply List.ext_getElem
  · simp [accO]
  · intro j h1 h2
    rw [List.getElem_set]
    simp only [accO, List.getElem_map, List.getElem_range, covS_take h]
    rw [hn]
    by_cases e : i = j
    · subst e
      rw [if_pos rfl, if_pos (by omega), if_neg (by omega)]; omega
    · rw [if_neg e]
      rw [if_neg (by omega : ¬ (-1 : Int) = (j : Int))]
      by_cases g : j < i
      · rw [if_pos g, if_pos (by omega)]; omega
      · rw [if_neg g, if_neg (by omega)]; omega
theorem accO_next1 {l : List Dr} (hc : CovOk l) {i : Nat} (h : i < l.length) (hn : (dat l i).c ≠ -1) : ((accO l i).set i ((accO l i).getD i 0 + (dat l i).s)).set (dat l i).c.toNat ((accO l i).getD (dat l i).c.toNat 0 - (dat l i).s) = accO l (i + 1) := by
  have hr := hc i (by omega) (by omega)
  have hci : (dat l i).c.toNat ≠ i := by omega
  rw [accO_at h, accO_at (by omega), if_neg (Nat.lt_irrefl i), if_pos (by omega)]
  apply List.ext_getElem
  · simp [accO]
  · intro j h1 h2
    rw [List.getElem_set, List.getElem_set]
    simp only [accO, List.getElem_map, List.getElem_range, covS_take h]
    by_cases e : (dat l i).c.toNat = j
    · rw [if_pos e, if_pos (by omega : (dat l i).c = (j : Int)), if_pos (by omega : j < i + 1), e]; omega
    · rw [if_neg e, if_neg (by omega : ¬ (dat l i).c = (j : Int))]
      by_cases e2 : i = j
      · subst e2
        rw [if_pos rfl, if_pos (by omega)]; omega
      · rw [if_neg e2]
        by_cases g : j < i
        · rw [if_pos g, if_pos (by omega)]; omega
        · rw [if_neg g, if_neg (by omega)]; omega
def ownL (l : List Dr) : List Int := (List.range l.length).map fun (j : Nat) => ownAt l j
theorem ownL_len (l : List Dr) : (ownL l).length = l.length := by simp [ownL]
theorem ownL_at {l : List Dr} {j : Nat} (h : j < l.length) : (ownL l).getD j 0 = ownAt l j := by simp [ownL, h]
def mxO (l : List Dr) (i : Nat) : List Int := (ownL l).take i ++ (accO l l.length).drop i
theorem mxO_len {l : List Dr} {i : Nat} (h : i ≤ l.length) : (mxO l i).length = l.length := by simp [mxO, ownL_len, accO_len]; omega
theorem mxO_at {l : List Dr} {i : Nat} (h : i < l.length) : (mxO l i).getD i 0 = (accO l l.length).getD i 0 := by
  unfold mxO
  rw [List.getD_eq_getElem?_getD, List.getElem?_append_right (by simp [ownL_len]; omega), List.getElem?_drop, List.getD_eq_getElem?_getD]
  congr 2; simp [ownL_len]; omega
theorem mxO_next {l : List Dr} {i : Nat} (h : i < l.length) : (mxO l i).set i (max 0 ((accO l l.length).getD i 0)) = mxO l (i + 1) := by
  have ho : i < (ownL l).length := by rw [ownL_len]; exact h
  have ha : i < (accO l l.length).length := by rw [accO_len]; exact h
  unfold mxO
  rw [List.take_succ_eq_append_getElem ho, List.drop_eq_getElem_cons ha, List.set_append_right _ _ (by simp [ownL_len]; omega)]
  have e : i - ((ownL l).take i).length = 0 := by simp [ownL_len]; omega
  rw [e, List.set_cons_zero, List.append_assoc]
  congr 2
  rw [accO_at h, if_pos h, List.take_length]
  simp [ownL, ownAt]
theorem ints_set (l : List Int) (i : Nat) (a : Int) : (ints l).set i [.int .i64 a] = ints (l.set i a) := by simp [ints, List.map_set]
theorem ints_repl0 (n : Nat) : List.replicate n [C.int .i64 0] = ints (List.replicate n 0) := by simp [ints]
theorem ints_getD {l : List Int} {i : Nat} (h : i < l.length) : (ints l).getD i [] = [.int .i64 (l.getD i 0)] := by rw [ints_at h]; simp [List.getD, h]
theorem d29 (l : List Dr) (hR : RightD l) : Spec Try.prog 29 [lst 6 (drs l)] (fun r => r = lst 1 (ints (ownL l))) := by
  refine Spec.of_awlP hf29 okf29 (by simp) fun S hS => ?_
  have hl := hR.len
  have b1 : (0 : Int) ≤ l.length := by omega
  have b2 : (8 : Int) * l.length ≤ 281474976710656 := by omega
  have b3 : (l.length : Int) ≤ 9223372036854775807 := by omega
  simp only [drs_len, normRows_drs, ints_repl0, Qs, bne_iff_ne, ne_eq, Nat.reduceEqDiff, Nat.reduceBEq, uu f29.eq_1, uu f29b34.eq_1, vv f29r35.eq_1, uu f29b36.eq_1, uu f29b37.eq_1, vv f29r38.eq_1, uu f29b39.eq_1, vv f29r40.eq_1, uu f29b41.eq_1]
  refine ⟨Int.le_refl _, b2, b3, ?_⟩
  rw [uu f29l33.eq_1]
  refine awl_loop (fun i : Nat => [(3, .k (.own 9)), (10, lst 6 (drs l)), (11, .int .i64 l.length), (12, .int .i64 i)]) (fun i => [(9, .arr 3 1 (some false) (ints (accO l i)))]) (fun i => i ≤ l.length) (fun i => l.length - i) 0 rfl (by rw [accO_zero]; rfl) (Nat.zero_le _) ?_
  intro i hi
  by_cases hlt : i < l.length
  · have c1 : (i : Int) < l.length := by omega
    have c4 : IntKind.i64.wrap ((i : Int) + 1) = (i : Int) + 1 := wrap_in (by omega) (by omega)
    obtain ⟨x, hx⟩ : ∃ x, dat l i = x := ⟨_, rfl⟩
    have hat := drs_nat hlt
    have hcv := hR.cov i (by omega) (by omega)
    have hsx := hR.sum _ (dat_mem (l := l) (i := (i : Int)) (by omega) (by omega))
    have hn0 := accO_next0 hlt
    have hn1 := accO_next1 hR.cov hlt
    rw [hx] at hat hcv hsx hn0 hn1
    have hb := accO_bound hR.sum hl i i
    have hA : (ints (accO l i)).getD i [] = [.int .i64 ((accO l i).getD i 0)] := ints_getD (by rw [accO_len]; exact hlt)
    have w1 : IntKind.i64.wrap ((accO l i).getD i 0 + x.s) = (accO l i).getD i 0 + x.s := wrap_in (by omega) (by omega)
    have ln := accO_len l i
    have i0 : (0 : Int) ≤ (i : Int) := by omega
    by_cases hc : x.c = -1
    · have hcb : (x.c != -1) = false := by simp [hc]
      simp only [c1, c4, i0, hat, hA, hcb, w1, ln, ints_len, drs_len, normRows_drs, Int.toNat_natCast, ints_set, Qs, if_true, if_false, bne_iff_ne, ne_eq, Int.reduceNeg, List.append_nil, Nat.reduceAdd, Nat.reduceEqDiff, Nat.reduceLeDiff, Nat.reduceBEq, vv f29r18.eq_1, vv f29r19.eq_1, uu f29b20.eq_1, vv f29r21.eq_1, uu f29b22.eq_1, vv f29r23.eq_1, uu f29b24.eq_1, vv f29r25.eq_1, uu f29b26.eq_1, uu f29b27.eq_1, uu f29b28.eq_1, uu f29b29.eq_1, uu f29b30.eq_1, vv f29r31.eq_1, uu f29b32.eq_1]
      exact Next.intro (i + 1) rfl (by rw [← hn0 hc]; rfl) (by omega) (by omega)
    · have hcb : (x.c != -1) = true := by simp [hc]
      have hcr : 0 ≤ x.c ∧ x.c < i := by omega
      have hc0 : 0 ≤ x.c := hcr.1
      obtain ⟨A1, hA1⟩ : ∃ A1, (accO l i).set i ((accO l i).getD i 0 + x.s) = A1 := ⟨_, rfl⟩
      have ln1 : A1.length = l.length := by rw [← hA1, List.length_set, ln]
      have hc1 : x.c < (l.length : Int) := by omega
      have hg1 : A1.getD x.c.toNat 0 = (accO l i).getD x.c.toNat 0 := by
        rw [← hA1, List.getD_eq_getElem?_getD, List.getElem?_set_ne (by omega), ← List.getD_eq_getElem?_getD]
      have hB : (ints A1).getD x.c.toNat [] = [.int .i64 ((accO l i).getD x.c.toNat 0)] := by rw [ints_getD (by omega), hg1]
      have hb2 := accO_bound hR.sum hl i x.c.toNat
      have w2 : IntKind.i64.wrap ((accO l i).getD x.c.toNat 0 - x.s) = (accO l i).getD x.c.toNat 0 - x.s := wrap_in (by omega) (by omega)
      have hn1 := hn1 hc
      rw [hA1] at hn1
      simp only [c1, c4, i0, hc0, hc1, hat, hA, hA1, hB, hcb, w1, w2, ln, ln1, ints_len, drs_len, normRows_drs, Int.toNat_natCast, ints_set, Qs, if_true, if_false, bne_iff_ne, ne_eq, Int.reduceNeg, List.append_nil, Nat.reduceAdd, Nat.reduceEqDiff, Nat.reduceLeDiff, Nat.reduceBEq, vv f29r18.eq_1, vv f29r19.eq_1, uu f29b20.eq_1, vv f29r21.eq_1, uu f29b22.eq_1, vv f29r23.eq_1, uu f29b24.eq_1, vv f29r25.eq_1, uu f29b26.eq_1, uu f29b27.eq_1, uu f29b28.eq_1, uu f29b29.eq_1, uu f29b30.eq_1, vv f29r31.eq_1, uu f29b32.eq_1]
      exact Next.intro (i + 1) rfl (by rw [← hn1]; rfl) (by omega) (by omega)
  · obtain rfl : i = l.length := by omega
    have c1 : ¬ (l.length : Int) < l.length := by omega
    simp only [c1, ints_len, accO_len, Qs, if_true, Nat.reduceBEq, uu f29b14.eq_1, vv f29r15.eq_1, uu f29b16.eq_1, uu f29b17.eq_1, uu f29b29.eq_1, uu f29b30.eq_1, vv f29r31.eq_1, uu f29b32.eq_1]
    rw [uu f29l13.eq_1]
    refine awl_loop (fun i : Nat => [(3, .k (.own 9)), (39, .int .i64 l.length), (40, .int .i64 i)]) (fun i => [(9, .arr 3 1 (some false) (ints (mxO l i)))]) (fun i => i ≤ l.length) (fun i => l.length - i) 0 rfl (by simp only [mxO, List.take_zero, List.nil_append, List.drop_zero]; rfl) (Nat.zero_le _) ?_
    intro i hi
    by_cases hlt : i < l.length
    · have c1 : (i : Int) < l.length := by omega
      have c4 : IntKind.i64.wrap ((i : Int) + 1) = (i : Int) + 1 := wrap_in (by omega) (by omega)
      have ln := mxO_len hi
      have hA : (ints (mxO l i)).getD i [] = [.int .i64 ((accO l l.length).getD i 0)] := by rw [ints_getD (by omega), mxO_at hlt]
      have i0 : (0 : Int) ≤ (i : Int) := by omega
      have hn := mxO_next hlt
      have em : (if (accO l l.length).getD i 0 > 0 then (accO l l.length).getD i 0 else 0) = max 0 ((accO l l.length).getD i 0) := by split <;> omega
      simp only [c1, c4, i0, hA, ln, ints_len, Int.toNat_natCast, ints_set, Qs, if_true, List.append_nil, Nat.reduceBEq, vv f29r3.eq_1, vv f29r4.eq_1, vv f29r5.eq_1, uu f29b6.eq_1, uu f29b7.eq_1, uu f29b8.eq_1, uu f29b9.eq_1, uu f29b10.eq_1, vv f29r11.eq_1, uu f29b12.eq_1]
      exact Next.intro (i + 1) rfl (by rw [← hn, ← em]; rfl) (by omega) (by omega)
    · obtain rfl : i = l.length := by omega
      have c1 : ¬ (l.length : Int) < l.length := by omega
      have hf : mxO l l.length = ownL l := by unfold mxO; rw [List.take_of_length_le (by rw [ownL_len]; omega), List.drop_of_length_le (by rw [accO_len]; omega), List.append_nil]
      simp only [c1, hf, ints_len, Qs, if_true, List.nodup_nil, List.nodup_cons, Nat.reduceBEq, List.not_mem_nil, vv f29r1.eq_1, uu f29b2.eq_1, uu f29b9.eq_1, uu f29b10.eq_1, vv f29r11.eq_1, uu f29b12.eq_1]
      exact hS _ (by simp [V.fz, V.nrm, Abs.K.fz, Abs.K.nrm, norm_list])
def ownG (l : List Dr) (i : Int) : Int := if chkG l ≠ 0 ∨ i < 0 ∨ i ≥ l.length then 0 else ownAt l i
theorem ownG_right {l : List Dr} (h : chkG l = 0) {i : Int} (h0 : 0 ≤ i) (hi : i < l.length) : ownG l i = ownAt l i := by
  unfold ownG; rw [if_neg (by simp [h]; omega)]
theorem d12 (l : List Dr) (n : Int) : Spec Try.prog 12 [lst 6 (drs l), .int .i64 n] (fun r => r = .int .i64 (ownG l n)) := by
  refine Spec.of_awlS hf12 okf12 (by simp) fun S hS => ?_
  unfold ownG at hS
  simp only [normRows_drs, Qs, Nat.reduceAdd, Nat.reduceBEq, uu f12.eq_1, vv f12r6.eq_1, uu f12b7.eq_1, uu f12b8.eq_1, vv f12r9.eq_1, uu f12b10.eq_1]
  refine call_s (d10 l) ?_ (ha := by simp [lendL, lendO, lookO, V.norm, norm_list, lst, normRows_drs])
  by_cases h : chkG l = 0
  case neg =>
    have hb : (chkG l != 0) = true := by simpa using h
    rw [if_pos (.inl h)] at hS
    simp only [hb, drs_len, normRows_drs, Qs, if_true, List.nodup_nil, Nat.reduceBEq, vv f12r3.eq_1, uu f12b4.eq_1, uu f12b5.eq_1]
    exact hS
  have hb : (chkG l != 0) = false := by simpa using h
  by_cases h1 : n < 0
  · rw [if_pos (.inr (.inl h1))] at hS
    simp only [hb, h1, drs_len, normRows_drs, Qs, if_true, if_false, List.nodup_nil, Nat.reduceBEq, vv f12r3.eq_1, uu f12b4.eq_1, uu f12b5.eq_1]
    exact hS
  by_cases h2 : n ≥ (l.length : Int)
  · rw [if_pos (.inr (.inr h2))] at hS
    simp only [hb, h1, h2, drs_len, normRows_drs, Qs, if_true, if_false, List.nodup_nil, Nat.reduceBEq, vv f12r3.eq_1, uu f12b4.eq_1, uu f12b5.eq_1]
    exact hS
  rw [if_neg (by rintro (g | g | g); exact g h; exact h1 g; exact h2 g)] at hS
  have hA : (ints (ownL l)).getD n.toNat [] = [.int .i64 (ownAt l n)] := by
    rw [ints_getD (by rw [ownL_len]; omega), ownL_at (by omega), show ((n.toNat : Nat) : Int) = n by omega]
  have h3 : 0 ≤ n := by omega
  have h4 : n < (l.length : Int) := by omega
  simp only [hb, h1, h2, drs_len, normRows_drs, Qs, if_true, if_false, Nat.reduceBEq, vv f12r1.eq_1, uu f12b2.eq_1, uu f12b5.eq_1]
  refine call_r (d29 l (right_of h)) ?_ (ha := by simp [lendL, lendO, lookO, V.norm, norm_list, lst, normRows_drs])
  simp only [h3, h4, hA, ownL_len, ints_len, Qs, List.nodup_nil, Nat.reduceBEq]
  exact hS
end Go.Abs

