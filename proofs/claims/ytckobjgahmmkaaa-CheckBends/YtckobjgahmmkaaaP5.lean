/- CheckBends -/
import Derived.Test.YtckobjgahmmkaaaP4
import Derived.Test.YtckobjgahmmkaaaRows
import Derived.ProofKit
import Derived.DataShut
set_option maxRecDepth 100000
set_option maxHeartbeats 4000000
namespace Go.Abs
open Go.Proofs
mutual
def szT : Term → Nat
  | .mk _ _ a => 1 + szL a
def szL : List Term → Nat
  | [] => 0
  | t :: l => szT t + szL l
end
theorem szT_eq (t : Term) : szT t = 1 + szL t.args := by cases t; simp only [szT, Term.args]
theorem szL_drop {l : List Term} {i : Nat} (h : i < l.length) : szL (l.drop i) = szT l[i] + szL (l.drop (i + 1)) := by
  rw [List.drop_eq_getElem_cons h, szL]
theorem szL_le : ∀ (l : List Term), l.length ≤ szL l
  | [] => by simp [szL]
  | t :: l => by have := szL_le l; rw [szL, szT_eq]; simp; omega
mutual
theorem coll_len : ∀ (t : Term) (acc : List Int), (coll t acc).length ≤ acc.length + szT t
  | .mk o n a, acc => by
    simp only [coll, szT]
    have := collL_len a (if o = 2 then acc ++ [n] else acc)
    split at this <;> simp_all <;> omega
theorem collL_len : ∀ (l : List Term) (acc : List Int), (collL l acc).length ≤ acc.length + szL l
  | [], acc => by simp [collL, szL]
  | t :: l, acc => by
    simp only [collL, szL]
    have h1 := coll_len t acc
    have h2 := collL_len l (coll t acc)
    omega
end
def walkO (acc : List Int) : OS := [(1005, .var 36 [.own 1000]), (1006, .var 80 [.fnk 62 [.tok 1005, .tok 1006]]), (1000, .arr 3 1 none (ints acc))]
def walkT : List Nat := [1005, 1006, 1000]
theorem s62 : ∀ (t : Term) (acc : List Int), acc.length + szT t ≤ 1000000 → SpecS Try.prog 62 [.agg (encT t), .k (.ptr 1005 0), .k (.ptr 1006 0)] (tabL walkT (walkO acc)) [1005, 1006] (fun r o' => r = .tup [] ∧ o' = tabL walkT (walkO (coll t acc))) := by
  refine Term.ind fun o n a ih acc => ?_
  generalize ht : Term.mk o n a = t
  have ha : a = t.args := by rw [← ht]; rfl
  rw [ha] at ih
  clear ht ha o n a
  intro hsz
  have hsz' := hsz
  rw [szT_eq] at hsz'
  have hal := szL_le t.args
  refine SpecS.of_awl (anchors := [(1, 1005), (2, 1006)]) hf62 okf62 (by simp) (by rfl) (by simp [walkO, walkT]) ?_
  generalize hS : (fun (r : V) (o' : Nat → Option O) => r = .tup [] ∧ o' = tabL walkT (walkO (coll t acc))) = S
  rw [coll_eq] at hS
  have loop : ∀ (acc' : List Int) (nl : Option Bool), acc'.length + szL t.args ≤ 1000000 → collL t.args acc' = collL t.args (if t.op = 2 then acc ++ [t.n] else acc) →
      ∀ ts os, keepT ts [1, 2, 15, 16, 17] = [(1, .k (.ptr 1005 0)), (2, .k (.ptr 1006 0)), (15, lst 3 (t.args.map encT)), (16, .int .i64 t.args.length), (17, .int .i64 0)] →
      keepO os [1000, 1005, 1006] = [(1000, .arr 3 1 nl (ints acc')), (1005, .var 36 [.own 1000]), (1006, .var 80 [.fnk 62 [.tok 1005, .tok 1006]])] →
      awl Try.prog f62l11 (AE.inBlockL 0 (endSK [] [.agg (encT t), .k (.ptr 1005 0), .k (.ptr 1006 0)] (tabL walkT (walkO acc)) walkT [(1, 1005), (2, 1006)] S)) ts os := by
    intro acc' nl hacc hcoll ts os hts hos
    rw [uf62l11]
    refine awl_loop (fun x : Nat × List Int × Option Bool => [(1, .k (.ptr 1005 0)), (2, .k (.ptr 1006 0)), (15, lst 3 (t.args.map encT)), (16, .int .i64 t.args.length), (17, .int .i64 x.1)])
      (fun x => [(1000, .arr 3 1 x.2.2 (ints x.2.1)), (1005, .var 36 [.own 1000]), (1006, .var 80 [.fnk 62 [.tok 1005, .tok 1006]])])
      (fun x => x.1 ≤ t.args.length ∧ x.2.1.length + szL (t.args.drop x.1) ≤ 1000000 ∧ collL (t.args.drop x.1) x.2.1 = collL t.args acc') (fun x => t.args.length - x.1) (0, acc', nl) hts hos ⟨Nat.zero_le _, by simpa using hacc, rfl⟩ ?_
    rintro ⟨i, ac, nl⟩ ⟨hi, hb, hj⟩
    simp only [] at hi hb hj
    by_cases hlt : i < t.args.length
    · have c1 : (i : Int) < t.args.length := by omega
      have c4 : IntKind.i64.wrap ((i : Int) + 1) = (i : Int) + 1 := wrap_in (by omega) (by omega)
      rw [szL_drop hlt] at hb
      rw [collL_drop hlt] at hj
      have hcl := coll_len t.args[i] ac
      simp only [c1, map_at hlt, encT_len, q_wpLs_eq_1, q_wpLs_eq_2, q_wpL_eq_1, q_exL_eq_4, q_exL_eq_8, q_exL_eq_9, q_exL_eq_11, q_exL_eq_23, q_exL_eq_29, q_look_eq_1, q_insT_eq_1, q_insO_eq_1, q_awl_eq_1, q_awl_eq_2, q_awl_eq_5, q_awl_eq_6, q_awl_eq_7, q_AE_thenL_eq_1, q_AE_inBlockL_eq_1, q_putK_eq_1, q_vBin_eq_1, q_resV_eq_1, q_binV_eq_1, q_binInt_eq_3, q_cutInt_eq_8, q_partV_eq_1, q_loadO_eq_1, q_isV_eq_1, q_vLoad_eq_1, q_vLoad_eq_2, q_ofRow_eq_1, q_pureRow_eq_3, q_V_cells_eq_2, q_splice_eq_1, q_stVarK_eq_1, q_storeK_eq_1, q_freeB_eq_1, q_freeT_eq_1, q_freeT_eq_2, q_freeO_eq_1, q_freeO_eq_2, q_V_noRef_eq_1, q_V_noRef_eq_2, q_K_noRef_eq_1, q_K_noRef_eq_2, q_K_noRef_eq_3, q_K_noRef_eq_5, q_K_noRef_eq_6, q_O_noRef_eq_1, q_O_noRef_eq_2, q_Cap_noRef_eq_1, q_List_map_cons, q_List_map_nil, q_List_take_succ_cons, q_List_take_zero, q_List_drop_succ_cons, q_List_drop_zero, q_List_nil_append, q_List_length_cons, q_List_length_nil, q_List_all_cons, q_List_all_nil, true_and, if_true, if_false, Bool.false_eq_true, and_self, bne_iff_ne, ne_eq, Bool.and_eq_true, Bool.and_true, Bool.true_and, Bool.or_true, Bool.false_or, List.append_nil, Nat.reduceAdd, Nat.reduceEqDiff, Nat.reduceBEq, Nat.zero_add, Int.toNat_natCast, Nat.le_refl, Int.natCast_nonneg, q_learn_eq_1, not_false_eq_true, q_condK_eq_1, q_condB_eq_1, decide_true, r_vIaddr_lst, List.length_map, r_ofRow_take, encT_len, lookT_here, lookT_next, lookO_here, lookO_next, uf62r1, uf62r2, uf62r3, uf62b4, uf62b5, uf62b6, uf62b7, uf62b8, uf62r9, uf62b10]
      refine .inr ⟨_, _, rfl, ?_⟩
      refine call_tab (dead := [1000]) (ih t.args[i] (List.getElem_mem hlt) ac (by omega)) ?_ (by simp [V.within, Abs.K.within, capV, walkT]) (by simp [Cap.live, lookO, isVarO]) (by simp [walkT]) (by simp [capV, V.nrm, Abs.K.nrm, encT_norm]) ?_ ?_ ?_ ?_ (by rfl)
      · simp only [c4, walkO, q_wpLs_eq_1, q_wpLs_eq_2, q_wpL_eq_1, q_exL_eq_1, q_exL_eq_11, q_look_eq_1, q_look_eq_2, q_insT_eq_1, q_awl_eq_2, q_AE_thenL_eq_1, q_putK_eq_1, q_vBin_eq_1, q_resV_eq_1, q_binV_eq_1, q_binInt_eq_3, q_cutInt_eq_1, q_mapT_eq_1, q_mapT_eq_2, q_mapO_eq_1, q_mapO_eq_2, q_Cap_noRef_eq_1, q_V_scrub_eq_1, q_V_scrub_eq_3, q_K_scrub_eq_1, q_K_scrub_eq_2, q_K_scrub_eq_4, q_K_scrub_eq_5, q_O_scrub_eq_1, q_O_scrub_eq_2, q_putDK_eq_2, q_List_map_cons, q_List_map_nil, q_List_nil_append, q_List_cons_append, q_List_all_cons, q_List_all_nil, true_and, if_true, if_false, and_self, bne_iff_ne, ne_eq, Bool.and_eq_true, Bool.and_true, Nat.reduceEqDiff, Nat.reduceBEq, not_false_eq_true, lookT_here, lookT_next, r_map_scrub, z_scrubs_nil, z_scrubs_cons, z_oscrubs_nil, z_oscrubs_cons]
        exact Next.intro (i + 1, coll t.args[i] ac, none) rfl rfl ⟨by simp only []; omega, by simp only []; omega, hj⟩ (by simp only []; omega)
      · simp [walkT, lookO, O.within, Abs.K.within, Cap.within]
      · simp [walkT, walkO, lookO, O.nrm, Abs.K.nrm]
      · simp [walkT, walkO, lookO]
      · simp [walkT, walkO, O.within, Abs.K.within, Cap.within]
    · have c1 : ¬ (i : Int) < t.args.length := by omega
      rw [List.drop_eq_nil_of_le (by omega), collL] at hj
      simp only [c1, q_wpLs_eq_1, q_wpLs_eq_2, q_wpL_eq_1, q_exL_eq_11, q_look_eq_1, q_insT_eq_1, q_awl_eq_2, q_awl_eq_5, q_awl_eq_6, q_awl_eq_9, q_AE_thenL_eq_1, q_AE_thenL_eq_2, q_AE_inBlockL_eq_2, q_putK_eq_1, q_vBin_eq_1, q_resV_eq_1, q_binV_eq_1, q_binInt_eq_3, q_cutInt_eq_8, q_mapT_eq_1, q_mapT_eq_2, q_mapO_eq_1, q_mapO_eq_2, q_resL_eq_1, q_one_eq_2, q_V_nrm_eq_1, q_K_nrm_eq_1, q_K_nrm_eq_3, q_O_nrm_eq_1, q_O_nrm_eq_2, q_C_norm_eq_4, q_C_norm_eq_5, q_List_map_cons, q_List_map_nil, q_List_getElemQ_cons_zero, q_List_getElemQ_cons_succ, true_and, if_true, forall_eq_or_imp, forall_eq, or_false, List.mem_cons, Nat.reduceBEq, q_learn_eq_1, q_condK_eq_1, q_condB_eq_2, decide_false, norm_lst, normRows_T, normRows_ints, lookT_here, lookT_next, lookO_here, lookO_next, List.not_mem_nil, z_endSK_normal, z_endSL, uf62b7, uf62b8, uf62r9, uf62b10]
      rw [← hcoll, ← hj] at hS
      have htab := tabL_eq (T := walkT) (os := [(1000, .arr 3 1 none (ints ac)), (1005, .var 36 [.own 1000]), (1006, .var 80 [.fnk 62 [.tok 1005, .tok 1006]])]) (L := walkO ac) (by simp [walkT, walkO, lookO])
      rw [htab, ← hS]
      refine ⟨⟨rfl, rfl⟩, rfl, ?_, ?_, ?_⟩
      · simp [walkT, lookO, O.within, Abs.K.within, Cap.within]
      · simp [walkT, walkO, tabL, tabIn, lookO, likeVar]
      · simp [walkT, walkO, tabL, tabIn, lookO, likeVar]
  by_cases h2 : t.op = 2
  · rw [if_pos h2] at hS loop
    have hlen : (acc ++ [t.n]).length = acc.length + 1 := by simp
    have hop : encT t = [.int .i64 2, .int .i64 t.n, lstC 3 (t.args.map encT)] := by rw [encT_eq, h2]
    simp only [walkO, hop, q_wpLs_eq_1, q_wpLs_eq_2, q_wpL_eq_1, q_exL_eq_1, q_exL_eq_5, q_exL_eq_7, q_exL_eq_8, q_exL_eq_9, q_exL_eq_11, q_exL_eq_21, q_exL_eq_30, q_exL_eq_33, q_look_eq_1, q_look_eq_2, q_insT_eq_1, q_insO_eq_1, q_awl_eq_2, q_awl_eq_5, q_awl_eq_6, q_awl_eq_7, q_AE_thenL_eq_1, q_initT_eq_1, q_initT_eq_2, q_putK_eq_1, q_vBin_eq_1, q_resV_eq_1, q_binV_eq_1, q_binInt_eq_3, q_cutInt_eq_6, q_vFaddr_eq_1, q_loadO_eq_1, q_isV_eq_1, q_vLoad_eq_1, q_ofRow_eq_1, q_pureRow_eq_1, q_pureRow_eq_2, q_pureRow_eq_3, q_V_cells_eq_1, q_splice_eq_1, q_isVarO_eq_1, q_nlApp_eq_2, q_boxK_eq_1, q_vRow_eq_1, q_vLits_eq_1, q_vLits_eq_2, q_bsK_eq_1, q_stVarK_eq_1, q_storeK_eq_1, q_srcO_eq_1, q_srcV_eq_2, q_appK_eq_1, q_appendK_eq_1, q_mapT_eq_1, q_mapT_eq_2, q_mapO_eq_1, q_mapO_eq_2, q_delO_eq_1, q_delO_eq_2, q_freeB_eq_1, q_freeT_eq_1, q_freeT_eq_2, q_freeO_eq_1, q_freeO_eq_2, q_V_noRef_eq_1, q_V_noRef_eq_2, q_K_noRef_eq_1, q_K_noRef_eq_2, q_K_noRef_eq_3, q_K_noRef_eq_6, q_O_noRef_eq_1, q_O_noRef_eq_2, q_Cap_noRef_eq_1, q_V_scrub_eq_1, q_V_scrub_eq_3, q_K_scrub_eq_1, q_K_scrub_eq_2, q_K_scrub_eq_4, q_K_scrub_eq_5, q_O_scrub_eq_1, q_O_scrub_eq_2, q_Option_map_some, q_List_map_cons, q_List_map_nil, q_List_take_succ_cons, q_List_take_zero, q_List_drop_succ_cons, q_List_drop_zero, q_List_nil_append, q_List_foldl_cons, q_List_foldl_nil, q_List_replicate_succ, q_List_replicate_zero, q_List_set_cons_zero, q_List_length_cons, q_List_length_nil, q_List_all_cons, q_List_all_nil, true_and, if_true, if_false, Bool.false_eq_true, forall_eq, or_false, and_self, bne_iff_ne, ne_eq, Bool.and_eq_true, Bool.and_true, Bool.true_and, Bool.or_true, Bool.false_or, BEq.rfl, List.append_nil, List.mem_cons, Nat.reduceAdd, Nat.reduceEqDiff, Nat.reduceLeDiff, Nat.reduceLT, Nat.reduceBEq, Nat.zero_add, Nat.add_zero, Nat.le_refl, q_learn_eq_1, not_false_eq_true, q_condK_eq_1, q_condB_eq_1, r_vLen_lst, ints_len, List.length_map, lookT_here, lookT_next, lookO_here, lookO_next, List.not_mem_nil, uf62, uf62b12, uf62r13, uf62b14, uf62r15, uf62b16, uf62r17, uf62b18, uf62b19, uf62r20, uf62b21]
    refine ⟨by omega, by omega, ?_⟩
    have := loop (acc ++ [t.n]) (some false) (by omega) rfl
    rw [hop] at this
    exact this _ _ rfl (by rw [ints_snoc]; rfl)
  · rw [if_neg h2] at hS loop
    have := loop acc none (by omega) rfl
    rw [encT_eq] at this
    simp only [walkO, encT_eq t, h2, q_wpLs_eq_1, q_wpLs_eq_2, q_wpL_eq_1, q_exL_eq_1, q_exL_eq_5, q_exL_eq_7, q_exL_eq_8, q_exL_eq_9, q_exL_eq_11, q_exL_eq_21, q_exL_eq_30, q_exL_eq_33, q_look_eq_1, q_look_eq_2, q_insT_eq_1, q_insO_eq_1, q_awl_eq_1, q_awl_eq_2, q_awl_eq_5, q_awl_eq_6, q_awl_eq_7, q_AE_thenL_eq_1, q_initT_eq_1, q_initT_eq_2, q_putK_eq_1, q_vBin_eq_1, q_resV_eq_1, q_binV_eq_1, q_binInt_eq_3, q_cutInt_eq_6, q_vFaddr_eq_1, q_loadO_eq_1, q_isV_eq_1, q_vLoad_eq_1, q_ofRow_eq_1, q_pureRow_eq_1, q_pureRow_eq_2, q_pureRow_eq_3, q_V_cells_eq_1, q_splice_eq_1, q_isVarO_eq_1, q_nlApp_eq_2, q_boxK_eq_1, q_vRow_eq_1, q_vLits_eq_1, q_vLits_eq_2, q_bsK_eq_1, q_stVarK_eq_1, q_storeK_eq_1, q_srcO_eq_1, q_srcV_eq_2, q_appK_eq_1, q_appendK_eq_1, q_mapT_eq_1, q_mapT_eq_2, q_mapO_eq_1, q_mapO_eq_2, q_delO_eq_1, q_delO_eq_2, q_freeB_eq_1, q_freeT_eq_1, q_freeT_eq_2, q_freeO_eq_1, q_freeO_eq_2, q_V_noRef_eq_1, q_V_noRef_eq_2, q_K_noRef_eq_1, q_K_noRef_eq_2, q_K_noRef_eq_3, q_K_noRef_eq_6, q_O_noRef_eq_1, q_O_noRef_eq_2, q_Cap_noRef_eq_1, q_V_scrub_eq_1, q_V_scrub_eq_3, q_K_scrub_eq_1, q_K_scrub_eq_2, q_K_scrub_eq_4, q_K_scrub_eq_5, q_O_scrub_eq_1, q_O_scrub_eq_2, q_Option_map_some, q_List_map_cons, q_List_map_nil, q_List_take_succ_cons, q_List_take_zero, q_List_drop_succ_cons, q_List_drop_zero, q_List_nil_append, q_List_foldl_cons, q_List_foldl_nil, q_List_replicate_succ, q_List_replicate_zero, q_List_set_cons_zero, q_List_length_cons, q_List_length_nil, q_List_all_cons, q_List_all_nil, true_and, if_true, if_false, Bool.false_eq_true, false_implies, forall_const, forall_eq, or_false, and_self, bne_iff_ne, ne_eq, Bool.and_eq_true, Bool.and_true, Bool.true_and, Bool.or_true, Bool.false_or, List.append_nil, List.mem_cons, Nat.reduceAdd, Nat.reduceEqDiff, Nat.reduceLeDiff, Nat.reduceLT, Nat.reduceBEq, Nat.zero_add, Nat.add_zero, Nat.le_refl, q_learn_eq_1, not_false_eq_true, q_condK_eq_1, condB_beq, r_vLen_lst, ints_len, List.length_map, lookT_here, lookT_next, lookO_here, lookO_next, List.not_mem_nil, uf62, uf62b12, uf62r13, uf62b14, uf62r15, uf62b16, uf62r17, uf62b18, uf62b19, uf62r20, uf62b21]
    exact this _ _ rfl rfl
theorem szT_nodes : ∀ (f : Nat), (∀ (t : Term) (k : Int), 0 ≤ nodes t k f → (szT t : Int) ≤ k - nodes t k f) ∧ (∀ (l : List Term) (k : Int), 0 ≤ nodesL l k f → (szL l : Int) ≤ k - nodesL l k f) := by
  intro f
  induction f with
  | zero =>
    have h1 : ∀ (t : Term) (k : Int), 0 ≤ nodes t k ((0 : Nat) : Int) → (szT t : Int) ≤ k - nodes t k ((0 : Nat) : Int) := by
      intro t k h
      rw [nodes_eq, if_pos (by omega)] at h
      omega
    refine ⟨h1, fun l => ?_⟩
    induction l with
    | nil => intro k h; simp [nodesL, szL]
    | cons a l ih =>
      intro k h
      simp only [nodesL] at h ⊢
      by_cases hk : k < 0
      · rw [if_pos hk] at h; omega
      · rw [if_neg hk] at h ⊢
        have := ih _ h
        by_cases hn : nodes a k ((0 : Nat) : Int) < 0
        · rw [nodesL_neg _ _ _ hn] at h; omega
        · have := h1 a k (by omega)
          rw [szL]; omega
  | succ f ih =>
    have h1 : ∀ (t : Term) (k : Int), 0 ≤ nodes t k ((f + 1 : Nat) : Int) → (szT t : Int) ≤ k - nodes t k ((f + 1 : Nat) : Int) := by
      intro t k h
      rw [nodes_eq, if_neg (by omega)] at h ⊢
      have e : ((f + 1 : Nat) : Int) - 1 = (f : Nat) := by omega
      rw [e] at h ⊢
      have := ih.2 t.args (k - 1) h
      rw [szT_eq]; omega
    refine ⟨h1, fun l => ?_⟩
    induction l with
    | nil => intro k h; simp [nodesL, szL]
    | cons a l ih =>
      intro k h
      simp only [nodesL] at h ⊢
      by_cases hk : k < 0
      · rw [if_pos hk] at h; omega
      · rw [if_neg hk] at h ⊢
        have := ih _ h
        by_cases hn : nodes a k ((f + 1 : Nat) : Int) < 0
        · rw [nodesL_neg _ _ _ hn] at h; omega
        · have := h1 a k (by omega)
          rw [szL]; omega
theorem s35 (t : Term) : Spec Try.prog 35 [.agg (encT t)] (fun r => r = .k (.newl 3 1 none (ints (if (checkT t).2 ≠ 0 then [] else Lib.compact (sortI (coll t [])))))) := by
  refine Spec.of_awlS hf35 okf35 (by simp) fun S hS => ?_
  simp only [q_wpLs_eq_1, q_wpLs_eq_2, q_wpL_eq_1, q_exL_eq_2, q_exL_eq_5, q_exL_eq_8, q_exL_eq_28, q_look_eq_1, q_insT_eq_1, q_insO_eq_1, q_awl_eq_2, q_awl_eq_5, q_AE_thenL_eq_1, q_initT_eq_1, q_initT_eq_2, q_putK_eq_1, q_loadO_eq_1, q_isV_eq_1, q_vLoad_eq_1, q_boxK_eq_1, q_freeB_eq_1, q_freeT_eq_1, q_freeT_eq_2, q_freeO_eq_1, q_freeO_eq_2, q_V_noRef_eq_1, q_V_noRef_eq_2, q_K_noRef_eq_3, q_O_noRef_eq_1, q_List_map_cons, q_List_map_nil, q_List_drop_zero, true_and, bne_iff_ne, ne_eq, Bool.and_true, Bool.or_true, Bool.false_or, Nat.reduceEqDiff, Nat.reduceBEq, Nat.zero_add, Nat.le_refl, not_false_eq_true, List.length_map, r_ofRow_take, encT_len, lookT_here, lookT_next, lookO_here, lookO_next, r_all_noRef, uf35, uf35r18, uf35b19, uf35b20, uf35r21, uf35b22]
  refine call_s (s31 t) ?_
  simp only [pairV, q_wpLs_eq_1, q_wpLs_eq_2, q_wpL_eq_1, q_exL_eq_1, q_exL_eq_2, q_exL_eq_4, q_exL_eq_8, q_exL_eq_9, q_exL_eq_11, q_exL_eq_17, q_exL_eq_27, q_exL_eq_29, q_look_eq_1, q_look_eq_2, q_insT_eq_1, q_insO_eq_1, q_awl_eq_1, q_awl_eq_2, q_awl_eq_5, q_awl_eq_6, q_awl_eq_10, q_AE_thenL_eq_1, q_AE_thenL_eq_3, q_putK_eq_1, q_vBin_eq_1, q_resV_eq_1, q_binV_eq_1, q_binInt_eq_3, q_cutInt_eq_7, q_vExtr_eq_1, q_loadO_eq_1, q_isV_eq_1, q_vLoad_eq_1, q_ofRow_eq_1, q_pureRow_eq_3, q_V_cells_eq_1, q_splice_eq_1, q_isVarO_eq_1, q_isArrO_eq_1, q_stVarK_eq_1, q_storeK_eq_1, q_mapT_eq_1, q_mapT_eq_2, q_mapO_eq_1, q_mapO_eq_2, q_freeB_eq_1, q_freeT_eq_1, q_freeT_eq_2, q_freeO_eq_1, q_freeO_eq_2, q_V_noRef_eq_1, q_V_noRef_eq_2, q_V_noRef_eq_4, q_K_noRef_eq_1, q_K_noRef_eq_2, q_K_noRef_eq_3, q_O_noRef_eq_1, q_O_noRef_eq_2, q_V_noRefL_eq_1, q_V_noRefL_eq_2, q_endK_eq_2, q_endL_eq_1, q_endV_eq_1, q_resL_eq_1, q_resL_eq_2, q_resX_eq_1, q_one_eq_1, q_V_nrm_eq_1, q_V_nrm_eq_2, q_V_nrm_eq_4, q_K_nrm_eq_1, q_K_nrm_eq_3, q_V_nrmL_eq_1, q_V_nrmL_eq_2, q_O_nrm_eq_1, q_O_nrm_eq_2, q_V_owns_eq_1, q_K_owns_eq_1, q_V_toNew_eq_1, q_K_toNew_eq_2, q_C_norm_eq_4, q_C_norm_eq_5, q_C_normRows_eq_1, q_List_map_cons, q_List_map_nil, q_List_take_succ_cons, q_List_take_zero, q_List_drop_succ_cons, q_List_drop_zero, q_List_nil_append, q_List_length_cons, q_List_length_nil, q_List_getElemQ_cons_zero, q_List_getElemQ_cons_succ, q_List_all_cons, q_List_all_nil, true_and, if_true, if_false, Bool.false_eq_true, and_self, bne_iff_ne, ne_eq, Bool.and_eq_true, Bool.and_true, Bool.true_and, Bool.or_true, Bool.true_or, Bool.false_or, BEq.rfl, List.append_nil, List.nodup_nil, List.nodup_cons, Nat.reduceEqDiff, Nat.reduceBEq, Nat.succ_ne_self, Nat.zero_add, Nat.le_refl, q_learn_eq_1, not_false_eq_true, q_condK_eq_1, condB_bne, encT_norm, List.length_map, r_ofRow_take, encT_len, lookT_here, lookT_next, lookO_here, lookO_next, List.not_mem_nil, r_all_noRef, z_capP, z_caps_nil, z_caps_ptr, z_fnV, z_fnP2, z_pureCaps_tok, r_map_nrm, q_awl_eq_12, z_noAL, ownK_eq, q_awl_eq_13, z_swO_nil, z_swO_cons, z_sw, z_swC_tok, z_swK_c, z_swK_own, z_swK_ptr, z_swK_fnk, z_swV_k, z_swV_agg, z_swV_any, z_swV_tup, z_swO_var, z_swO_arr, z_map_sw, uf35r5, uf35b6, uf35r7, uf35b8, uf35r9, uf35b10, uf35r11, uf35b12, uf35r13, uf35b14, uf35b15, uf35r16, uf35b17]
  refine ⟨fun h => ?_, fun h => ?_⟩
  · rw [if_pos h] at hS
    exact hS
  · rw [if_neg (by simp [h])] at hS
    have hck : (checkT t).2 = 0 := h
    have hsz : szT t ≤ 60 := by
      have hn : ¬ nodes t 60 8 < 0 := by
        intro hn
        rw [checkT, if_pos hn] at hck
        simp at hck
      have := (szT_nodes 8).1 t 60 (by simp; omega)
      have e8 : ((8 : Nat) : Int) = 8 := rfl
      rw [e8] at this
      omega
    have hcl := coll_len t []
    simp only [List.length_nil, Nat.zero_add] at hcl
    refine .inr ⟨_, _, rfl, ?_⟩
    refine call_tab (dead := [1000]) (s62 t [] (by simp; omega)) ?_ (by simp [V.within, Abs.K.within, capV, walkT]) (by simp [Cap.live, lookO, isVarO]) (by simp [walkT]) (by simp [capV, V.nrm, Abs.K.nrm, encT_norm]) ?_ ?_ ?_ ?_ (by rfl)
    · simp only [walkO, q_wpLs_eq_1, q_wpLs_eq_2, q_wpL_eq_1, q_exL_eq_8, q_exL_eq_28, q_look_eq_1, q_insT_eq_1, q_awl_eq_2, q_awl_eq_5, q_AE_thenL_eq_1, q_putK_eq_1, q_loadO_eq_1, q_isV_eq_1, q_vLoad_eq_1, q_ofRow_eq_1, q_pureRow_eq_3, q_mapT_eq_1, q_mapT_eq_2, q_mapO_eq_1, q_mapO_eq_2, q_Cap_noRef_eq_1, q_V_scrub_eq_1, q_V_scrub_eq_3, q_V_scrub_eq_6, q_K_scrub_eq_1, q_K_scrub_eq_2, q_K_scrub_eq_4, q_K_scrub_eq_5, q_O_scrub_eq_1, q_O_scrub_eq_2, q_putDK_eq_2, q_List_map_cons, q_List_map_nil, q_List_take_succ_cons, q_List_take_zero, q_List_drop_zero, q_List_nil_append, q_List_cons_append, q_List_length_cons, q_List_length_nil, q_List_all_cons, q_List_all_nil, true_and, if_true, if_false, Bool.false_eq_true, and_self, bne_iff_ne, ne_eq, Bool.and_eq_true, Bool.and_true, Nat.reduceEqDiff, Nat.reduceBEq, Nat.zero_add, Nat.le_refl, not_false_eq_true, lookT_here, lookT_next, lookO_here, r_map_scrub, z_scrubs_nil, z_scrubs_cons, z_oscrubs_nil, z_oscrubs_cons, uf35r3, uf35b4]
      refine call_sort (coll t []) (s49 (by omega)) rfl ?_
      simp only [q_wpLs_eq_1, q_wpLs_eq_2, q_wpL_eq_1, q_exL_eq_8, q_exL_eq_28, q_look_eq_1, q_insT_eq_1, q_insO_eq_1, q_awl_eq_2, q_awl_eq_5, q_AE_thenL_eq_1, q_putK_eq_1, q_loadO_eq_1, q_isV_eq_1, q_vLoad_eq_1, q_ofRow_eq_1, q_pureRow_eq_3, q_List_map_cons, q_List_map_nil, q_List_take_succ_cons, q_List_take_zero, q_List_drop_zero, q_List_length_cons, q_List_length_nil, true_and, if_false, Bool.false_eq_true, Nat.reduceBEq, Nat.zero_add, Nat.le_refl, lookT_here, lookT_next, lookO_here, lookO_next, uf35r1, uf35b2]
      refine call_compact (sortI (coll t [])) s50 rfl ?_
      simp only [q_wpLs_eq_1, q_wpLs_eq_2, q_wpL_eq_1, q_exL_eq_1, q_look_eq_1, q_insT_eq_1, q_insO_eq_1, q_awl_eq_10, q_isArrO_eq_1, q_mapT_eq_1, q_mapT_eq_2, q_mapO_eq_1, q_mapO_eq_2, q_Cap_noRef_eq_1, q_V_scrub_eq_1, q_V_scrub_eq_3, q_V_scrub_eq_5, q_V_scrub_eq_6, q_K_scrub_eq_1, q_K_scrub_eq_2, q_K_scrub_eq_4, q_K_scrub_eq_5, q_O_scrub_eq_1, q_O_scrub_eq_2, q_endK_eq_2, q_endL_eq_1, q_endV_eq_1, q_resL_eq_1, q_resL_eq_2, q_resX_eq_1, q_one_eq_1, q_V_nrm_eq_1, q_V_nrm_eq_2, q_V_nrm_eq_6, q_K_nrm_eq_1, q_K_nrm_eq_3, q_O_nrm_eq_1, q_O_nrm_eq_2, q_V_owns_eq_1, q_K_owns_eq_1, q_V_toNew_eq_1, q_K_toNew_eq_2, q_C_norm_eq_1, q_C_norm_eq_4, q_C_norm_eq_5, q_C_normRows_eq_1, q_List_map_cons, q_List_map_nil, q_List_all_cons, q_List_all_nil, q_List_isEmpty_nil, true_and, if_true, if_false, and_self, bne_iff_ne, ne_eq, Bool.and_eq_true, Bool.and_true, List.nodup_nil, List.nodup_cons, Nat.reduceEqDiff, not_false_eq_true, normRows_ints, encT_norm, lookT_here, lookO_here, List.not_mem_nil, r_map_scrub, r_map_nrm, q_C_norm_eq_7]
      rw [intRows_norm]
      exact hS
    · simp [walkT, lookO, O.within, Abs.K.within, Cap.within]
    · simp [walkT, walkO, lookO, O.nrm, Abs.K.nrm, ints]
    · simp [walkT, walkO, lookO]
    · simp [walkT, walkO, O.within, Abs.K.within, Cap.within]
end Go.Abs


namespace Go.Abs
def VR (k : Int) (c : Cell) : Prop := if c.known = true then inN c.n ∧ (k = 1 → c.n = 0 ∨ c.n = 1) else c.n = 0
theorem VR.unknown (k : Int) : VR k ⟨false, 0⟩ := by simp [VR]
theorem VR.yes (k : Int) (b : Bool) : VR k (yes b) := by cases b <;> simp [VR, Abs.yes, inN]
theorem cut_in (n : Int) : inN (cut n) := by unfold inN cut; omega
theorem VR.logic {a b : Cell} {k : Int} (hk : k = 0 ∨ k = 1) : VR 1 (logic a b k) := by
  unfold Abs.logic
  split
  · rcases hk with rfl | rfl <;> simp [VR, inN]
  · split
    · rcases hk with rfl | rfl <;> simp [VR, inN]
    · exact VR.unknown 1
theorem VR.number {op a b : Int} (ha : inN a) (hb : inN b) : VR (if op = 7 ∨ op = 8 then 1 else 0) (number op a b) := by
  unfold Abs.number
  by_cases h7 : op = 7
  · rw [if_pos h7]; exact VR.yes _ _
  by_cases h8 : op = 8
  · rw [if_neg h7, if_pos h8]; exact VR.yes _ _
  rw [if_neg h7, if_neg h8, if_neg (by omega)]
  unfold inN at ha hb
  have c1 := cut_in (a + b)
  have c2 := cut_in (a - b)
  have c3 := cut_in (a * b)
  unfold inN at c1 c2 c3
  unfold times
  (repeat' split) <;> simp [VR, inN] <;> omega
theorem VR.value {n : Int} {cells : List Cell} (h0 : 0 ≤ n) (h20 : n < 20) : VR (if n < 7 then 0 else 1) (valueC n cells) := by
  have hv : (varType n).getD 0 = if n < 7 then 0 else 1 := by
    unfold varType
    rw [if_neg (by omega)]
    split <;> rfl
  have hk : (if n < 7 then (0 : Int) else 1) = 0 ∨ (if n < 7 then (0 : Int) else 1) = 1 := by split <;> simp
  generalize (if n < 7 then (0 : Int) else 1) = k at hv hk ⊢
  unfold valueC
  rw [hv]
  have hc := cut_in (cells.getD n.toNat ⟨false, 0⟩).n
  split
  · exact VR.unknown _
  split
  · exact VR.unknown _
  split
  · rename_i hz
    simp only [VR, if_true]
    exact ⟨hc, fun h => by omega⟩
  · split <;> simp [VR, inN]
section
variable (c : List Cell)
end
end Go.Abs


namespace Go.Abs
section
variable (c : List Cell)
end
end Go.Abs


namespace Go.Abs
theorem asc_ext : ∀ (l m : List Int), l.Pairwise (· < ·) → m.Pairwise (· < ·) → (∀ x, x ∈ l ↔ x ∈ m) → l = m
  | [], [], _, _, _ => rfl
  | [], b :: m, _, _, h => by have := (h b).2 (by simp); simp at this
  | a :: l, [], _, _, h => by have := (h a).1 (by simp); simp at this
  | a :: l, b :: m, hl, hm, h => by
    rw [List.pairwise_cons] at hl hm
    have hab : a = b := by
      have h1 := (h a).1 (by simp)
      have h2 := (h b).2 (by simp)
      rcases List.mem_cons.1 h1 with h1 | h1
      · exact h1
      · rcases List.mem_cons.1 h2 with h2 | h2
        · exact h2.symm
        · have := hl.1 b h2; have := hm.1 a h1; omega
    subst hab
    rw [asc_ext l m hl.2 hm.2 (fun x => ?_)]
    have hx := h x
    simp only [List.mem_cons] at hx
    constructor
    · intro hxl
      rcases hx.1 (.inr hxl) with rfl | hxm
      · have := hl.1 x hxl; omega
      · exact hxm
    · intro hxm
      rcases hx.2 (.inr hxm) with rfl | hxl
      · have := hm.1 x hxm; omega
      · exact hxl
theorem upto_asc (n : Nat) : (upto n).Pairwise (· < ·) := by
  unfold upto
  rw [List.pairwise_map]
  exact List.pairwise_lt_range.imp (fun h => by omega)
theorem mem_upto (n : Nat) (x : Int) : x ∈ upto n ↔ 0 ≤ x ∧ x < n := by
  simp only [upto, List.mem_map, List.mem_range]
  constructor
  · rintro ⟨a, h, rfl⟩; omega
  · rintro ⟨h1, h2⟩; exact ⟨x.toNat, by omega, by omega⟩
theorem sortI_asc (l : List Int) : (sortI l).Pairwise (· ≤ ·) := by
  have := List.pairwise_mergeSort (le := fun x y : Int => decide (x ≤ y)) (fun a b c h1 h2 => by simp at *; omega) (fun a b => by simp; omega) l
  exact this.imp (fun h => by simpa using h)
theorem mem_sortI (l : List Int) (x : Int) : x ∈ sortI l ↔ x ∈ l := List.mem_mergeSort
theorem compact_asc (l : List Int) (hs : l.Pairwise (· ≤ ·)) : (Lib.compact l).Pairwise (· < ·) ∧ ∀ x, x ∈ Lib.compact l ↔ x ∈ l := by
  have hget : ∀ i j, i ≤ j → j < l.length → l.toArray[i]! ≤ l.toArray[j]! := by
    intro i j hij hj
    rw [getElem!_pos l.toArray i (by simp; omega), getElem!_pos l.toArray j (by simpa using hj)]
    simp only [List.getElem_toArray]
    rcases Nat.eq_or_lt_of_le hij with h | h
    · subst h; omega
    · exact List.pairwise_iff_getElem.1 hs i j (by omega) hj h
  have key : ∀ m, m ≤ l.length → (Lib.compactUpTo l.toArray m).Pairwise (· < ·) ∧ ∀ x, x ∈ Lib.compactUpTo l.toArray m ↔ ∃ j, j < m ∧ l.toArray[j]! = x := by
    intro m
    induction m with
    | zero => intro _; simp [Lib.compactUpTo]
    | succ m ih =>
      intro hm
      obtain ⟨h1, h2⟩ := ih (by omega)
      have hsucc : Lib.compactUpTo l.toArray (m + 1) = Lib.compactUpTo l.toArray m ++ (if Lib.keeps l.toArray m = true then [l.toArray[m]!] else []) := by
        unfold Lib.compactUpTo
        rw [List.range_succ, List.filter_append, List.map_append]
        congr 1
        by_cases hk : Lib.keeps l.toArray m = true <;> simp [hk]
      rw [hsucc]
      by_cases hk : Lib.keeps l.toArray m = true
      · rw [if_pos hk]
        refine ⟨?_, fun x => ?_⟩
        · rw [List.pairwise_append]
          refine ⟨h1, by simp, fun a ha b hb => ?_⟩
          have hb := List.mem_singleton.1 hb
          subst hb
          obtain ⟨j, hj, rfl⟩ := (h2 a).1 ha
          have hle := hget j m (by omega) (by omega)
          have hk' : m = 0 ∨ l.toArray[m]! ≠ l.toArray[m - 1]! := by simpa [Lib.keeps] using hk
          rcases hk' with h0 | hne
          · omega
          · have ha := hget j (m - 1) (by omega) (by omega)
            have hb := hget (m - 1) m (by omega) (by omega)
            omega
        · rw [List.mem_append, h2]
          simp only [List.mem_singleton]
          constructor
          · rintro (⟨j, hj, rfl⟩ | rfl)
            · exact ⟨j, by omega, rfl⟩
            · exact ⟨m, by omega, rfl⟩
          · rintro ⟨j, hj, rfl⟩
            rcases Nat.lt_or_ge j m with h | h
            · exact .inl ⟨j, h, rfl⟩
            · have : j = m := by omega
              subst this; exact .inr rfl
      · rw [if_neg hk]
        simp only [List.append_nil]
        refine ⟨h1, fun x => ?_⟩
        rw [h2]
        have hk' : ¬ (m = 0 ∨ l.toArray[m]! ≠ l.toArray[m - 1]!) := by simpa [Lib.keeps] using hk
        have hm0 : m ≠ 0 := fun h => hk' (.inl h)
        have heq : l.toArray[m]! = l.toArray[m - 1]! := by
          by_cases h : l.toArray[m]! = l.toArray[m - 1]!
          · exact h
          · exact absurd (.inr h) hk'
        constructor
        · rintro ⟨j, hj, rfl⟩; exact ⟨j, by omega, rfl⟩
        · rintro ⟨j, hj, rfl⟩
          rcases Nat.lt_or_ge j m with h | h
          · exact ⟨j, h, rfl⟩
          · have : j = m := by omega
            subst this; exact ⟨j - 1, by omega, heq.symm⟩
  obtain ⟨h1, h2⟩ := key l.length (Nat.le_refl _)
  refine ⟨h1, fun x => ?_⟩
  show x ∈ Lib.compactUpTo l.toArray l.length ↔ _
  rw [h2, List.mem_iff_getElem]
  constructor
  · rintro ⟨j, hj, rfl⟩
    exact ⟨j, hj, by rw [getElem!_pos l.toArray j (by simpa using hj)]; simp⟩
  · rintro ⟨j, hj, rfl⟩
    exact ⟨j, hj, by rw [getElem!_pos l.toArray j (by simpa using hj)]; simp⟩
theorem cs_eq {l : List Int} {n : Nat} {p : Int → Bool} (h : ∀ x, x ∈ l ↔ (0 ≤ x ∧ x < n) ∧ p x = true) : Lib.compact (sortI l) = (upto n).filter p := by
  obtain ⟨h1, h2⟩ := compact_asc (sortI l) (sortI_asc l)
  refine asc_ext _ _ h1 ((upto_asc n).filter _) fun x => ?_
  rw [h2, mem_sortI, h, List.mem_filter, mem_upto]
theorem chk_var {t : Term} (h : (chk t).2 = 0) (h2 : t.op = 2) : t.args = [] ∧ 0 ≤ t.n ∧ t.n < 20 := by
  obtain ⟨_, h1⟩ := chk_ok h
  rw [h1] at h
  have a1 : ¬ (t.op < 0 ∨ t.op > 13) := by omega
  have a2 : t.op = 0 ∨ t.op = 1 ∨ t.op = 2 := by omega
  simp only [node, if_neg a1, if_pos a2, leaf] at h
  split at h
  · simp at h
  · rename_i hl
    rw [if_neg (by omega), if_neg (by omega)] at h
    refine ⟨List.eq_nil_of_length_eq_zero (by omega), ?_⟩
    cases hv : varType t.n with
    | none => rw [hv] at h; simp at h
    | some k => unfold varType at hv; split at hv
                · simp at hv
                · omega
theorem mem_coll : ∀ (t : Term), (chk t).2 = 0 → ∀ (acc : List Int) (v : Int), v ∈ coll t acc ↔ v ∈ acc ∨ used t v = true := by
  refine Term.ind fun o n a ih h acc v => ?_
  have hk := (chk_ok h).1
  rw [coll_eq, used_eq]
  by_cases h2 : o = 2
  · obtain ⟨h3, _⟩ := chk_var h h2
    have h3 : a = [] := h3
    subst h3
    show v ∈ collL [] (if o = 2 then acc ++ [n] else acc) ↔ v ∈ acc ∨ (if o = 2 then decide (n = v) else usedL [] v) = true
    rw [if_pos h2, if_pos h2]
    simp [collL, eq_comm]
  · show v ∈ collL a (if o = 2 then acc ++ [n] else acc) ↔ v ∈ acc ∨ (if o = 2 then decide (n = v) else usedL a v) = true
    rw [if_neg h2, if_neg h2]
    have key : ∀ (l : List Term), (∀ x ∈ l, x ∈ a) → ∀ acc, v ∈ collL l acc ↔ v ∈ acc ∨ usedL l v = true := by
      intro l
      induction l with
      | nil => intro _ acc; simp [collL, usedL]
      | cons b l ihl =>
        intro hm acc
        have hb := hm b (by simp)
        rw [collL, ihl (fun x hx => hm x (by simp [hx])), ih b hb (hk b hb), usedL]
        cases used b v <;> simp
    exact key a (fun x hx => hx) acc
theorem used_range : ∀ (t : Term), (chk t).2 = 0 → ∀ v, used t v = true → 0 ≤ v ∧ v < 20 := by
  refine Term.ind fun o n a ih h v hu => ?_
  have hk := (chk_ok h).1
  rw [used_eq] at hu
  by_cases h2 : o = 2
  · obtain ⟨_, h4⟩ := chk_var h h2
    have hu : decide (n = v) = true := by
      have e : (if o = 2 then decide (n = v) else usedL a v) = true := hu
      rwa [if_pos h2] at e
    have hu : n = v := of_decide_eq_true hu
    subst hu; exact h4
  · have hu : usedL a v = true := by
      have e : (if o = 2 then decide (n = v) else usedL a v) = true := hu
      rwa [if_neg h2] at e
    have key : ∀ (l : List Term), (∀ x ∈ l, x ∈ a) → usedL l v = true → 0 ≤ v ∧ v < 20 := by
      intro l
      induction l with
      | nil => intro _ h; simp [usedL] at h
      | cons b l ihl =>
        intro hm h
        have hb := hm b (by simp)
        rw [usedL] at h
        cases hc : used b v
        · rw [hc] at h; exact ihl (fun x hx => hm x (by simp [hx])) (by simpa using h)
        · exact ih b hb (hk b hb) v hc
    exact key a (fun x hx => hx) hu
theorem checkT_ok {t : Term} (h : (checkT t).2 = 0) : checkT t = chk t ∧ 0 ≤ nodes t 60 8 := by
  unfold checkT at h ⊢
  split at h
  · simp at h
  · rename_i hn; rw [if_neg hn]; exact ⟨rfl, by omega⟩
theorem vars_eq (t : Term) : (if (checkT t).2 ≠ 0 then [] else Lib.compact (sortI (coll t []))) = varsT t := by
  unfold varsT
  split
  · rfl
  · rename_i h
    have h : (checkT t).2 = 0 := by simpa using h
    have hc := (checkT_ok h).1
    rw [hc] at h
    refine cs_eq fun x => ?_
    rw [mem_coll t h]
    constructor
    · rintro (hx | hx)
      · simp at hx
      · exact ⟨used_range t h x hx, hx⟩
    · rintro ⟨_, hx⟩; exact .inr hx
theorem varsT_mem {t : Term} {v : Int} (h : v ∈ varsT t) : 0 ≤ v ∧ v < 20 := by
  unfold varsT at h
  split at h
  · simp at h
  · rw [List.mem_filter, mem_upto] at h; exact h.1
def usesO (o : Order) : List Int := (upto 20).filter fun v => o.rules.any fun r => hasI (varsT r.term) v
def plain (q : Int) : Bool := decide (q = 0 ∨ q = 6 ∨ q = 7)
def blindR (r : Rule) : Bool := plain r.ask && (varsT r.term).any fun v => decide (v ≥ 15)
def blindO (o : Order) : List Int := (upto 22).filter fun q => plain q && o.rules.any fun r => decide (r.ask = q) && (varsT r.term).any fun v => decide (v ≥ 15)
theorem mem_hasI (l : List Int) (v : Int) : hasI l v = true ↔ v ∈ l := by
  simp only [hasI, List.any_eq_true, decide_eq_true_eq]
  constructor
  · rintro ⟨x, h, rfl⟩; exact h
  · intro h; exact ⟨v, h, rfl⟩
theorem uses_eq (o : Order) : Lib.compact (sortI (o.rules.flatMap fun r => varsT r.term)) = usesO o := by
  refine cs_eq fun x => ?_
  simp only [List.mem_flatMap, List.any_eq_true, mem_hasI]
  constructor
  · rintro ⟨r, hr, hx⟩; exact ⟨varsT_mem hx, r, hr, hx⟩
  · rintro ⟨_, r, hr, hx⟩; exact ⟨r, hr, hx⟩
theorem blind_eq (o : Order) : Lib.compact (sortI ((o.rules.filter blindR).map (·.ask))) = blindO o := by
  refine cs_eq fun x => ?_
  simp only [List.mem_map, List.mem_filter, blindR, Bool.and_eq_true, List.any_eq_true, decide_eq_true_eq]
  constructor
  · rintro ⟨r, ⟨hr, hp, h⟩, rfl⟩
    refine ⟨?_, hp, r, hr, rfl, h⟩
    have : r.ask = 0 ∨ r.ask = 6 ∨ r.ask = 7 := by simpa [plain] using hp
    omega
  · rintro ⟨_, hp, r, hr, rfl, h⟩
    exact ⟨r, ⟨hr, hp, h⟩, rfl⟩
end Go.Abs


set_option maxRecDepth 100000
set_option maxHeartbeats 4000000
namespace Go.Abs
open Go.Proofs
def kindsC (f : Nat → Int) : List C := (List.range 22).map fun q => .int .i64 (f q)
theorem kindsC_len (f : Nat → Int) : (kindsC f).length = 22 := by simp [kindsC]
def k1 (i q : Nat) : Int := if q < i then 1 else 0
def k2 (j q : Nat) : Int := if q ∈ [6, 7, 10, 12, 13, 14, 15, 16, 20, 21].take j then 0 else 1
def asks : List Int := [6, 7, 10, 12, 13, 14, 15, 16, 20, 21]
def kindsRow : List C := kindsC fun q => qtype q
abbrev rowZ : List K := (kindsC fun _ => 0).map .c
theorem s44 : Spec Try.prog 44 [] (fun r => r = .agg kindsRow) := by
  refine Spec.of_awlS hf44 okf44 (by simp) fun S hS => ?_
  simp only [q_wpLs_eq_1, q_wpLs_eq_2, q_wpL_eq_1, q_exL_eq_1, q_exL_eq_4, q_look_eq_2, q_insT_eq_1, q_insO_eq_1, q_awl_eq_2, q_awl_eq_5, q_awl_eq_7, q_AE_thenL_eq_1, q_initT_eq_1, q_freeB_eq_1, q_freeT_eq_1, q_freeT_eq_2, q_freeO_eq_1, q_freeO_eq_2, q_V_noRef_eq_1, q_K_noRef_eq_1, q_K_noRef_eq_3, q_O_noRef_eq_1, q_List_map_cons, q_List_map_nil, q_List_all_cons, q_List_all_nil, true_and, bne_iff_ne, ne_eq, Bool.and_true, Bool.or_true, Bool.false_or, Nat.reduceBEq, Nat.zero_ne_one, not_false_eq_true, uf44, uf44b29, uf44r30, uf44b31, uf44b32, uf44r33, uf44b34, uf44r35, uf44b36]
  rw [uf44l28]
  refine awl_loop (fun i : Nat => [(0, .k (.ptr 0 0)), (1, .k (.ptr 1 0)), (5, .int .i64 i)])
    (fun i => [(0, .var 65 rowZ), (1, .var 65 ((kindsC (k1 i)).map .c))]) (fun i => i ≤ 22) (fun i => 22 - i) 0 rfl rfl (Nat.zero_le _) ?_
  intro i hi
  by_cases hlt : i < 22
  · have c1 : (i : Int) < 22 := by omega
    have c4 : IntKind.i64.wrap ((i : Int) + 1) = (i : Int) + 1 := wrap_in (by omega) (by omega)
    have c5 : i + 1 ≤ 22 := by omega
    simp only [c1, c4, c5, kindsC_len, List.length_map, q_wpLs_eq_1, q_wpLs_eq_2, q_wpL_eq_1, q_exL_eq_1, q_exL_eq_9, q_exL_eq_11, q_exL_eq_24, q_look_eq_1, q_look_eq_2, q_insT_eq_1, q_insO_eq_1, q_awl_eq_1, q_awl_eq_2, q_awl_eq_5, q_awl_eq_6, q_awl_eq_7, q_AE_thenL_eq_1, q_AE_inBlockL_eq_1, q_putK_eq_1, q_vBin_eq_1, q_resV_eq_1, q_binV_eq_1, q_binInt_eq_3, q_cutInt_eq_1, q_cutInt_eq_8, q_vIaddrA_eq_1, q_V_cells_eq_1, q_splice_eq_1, q_isVarO_eq_1, q_stVarK_eq_1, q_storeK_eq_1, q_List_length_cons, q_List_length_nil, true_and, if_true, and_self, Nat.reduceBEq, Nat.zero_add, Int.toNat_natCast, Int.natCast_nonneg, q_learn_eq_1, q_condK_eq_1, q_condB_eq_1, decide_true, List.length_map, lookT_here, lookT_next, Int.cast_ofNat_Int, lookO_here, lookO_next, Nat.mul_one, uf44r18, uf44r19, uf44r20, uf44b21, uf44b22, uf44b23, uf44b24, uf44b25, uf44r26, uf44b27]
    refine Next.intro (i + 1) rfl ?_ (by omega) (by omega)
    have h22 : i = 0 ∨ i = 1 ∨ i = 2 ∨ i = 3 ∨ i = 4 ∨ i = 5 ∨ i = 6 ∨ i = 7 ∨ i = 8 ∨ i = 9 ∨ i = 10 ∨ i = 11 ∨ i = 12 ∨ i = 13 ∨ i = 14 ∨ i = 15 ∨ i = 16 ∨ i = 17 ∨ i = 18 ∨ i = 19 ∨ i = 20 ∨ i = 21 := by omega
    rcases h22 with rfl | rfl | rfl | rfl | rfl | rfl | rfl | rfl | rfl | rfl | rfl | rfl | rfl | rfl | rfl | rfl | rfl | rfl | rfl | rfl | rfl | rfl <;> rfl
  · have c1 : ¬ (i : Int) < 22 := by omega
    obtain rfl : i = 22 := by omega
    simp only [c1, q_wpLs_eq_1, q_wpLs_eq_2, q_wpL_eq_1, q_exL_eq_1, q_exL_eq_7, q_exL_eq_11, q_exL_eq_30, q_look_eq_1, q_look_eq_2, q_insT_eq_1, q_insO_eq_1, q_awl_eq_2, q_awl_eq_5, q_awl_eq_6, q_awl_eq_7, q_awl_eq_9, q_AE_thenL_eq_1, q_AE_thenL_eq_2, q_AE_inBlockL_eq_2, q_putK_eq_1, q_vBin_eq_1, q_resV_eq_1, q_binV_eq_1, q_binInt_eq_3, q_cutInt_eq_8, q_vLen_eq_2, q_lenO_eq_1, q_vRow_eq_1, q_vLits_eq_1, q_vLits_eq_2, q_bsK_eq_1, q_freeB_eq_1, q_freeT_eq_1, q_freeT_eq_2, q_freeO_eq_1, q_freeO_eq_2, q_V_noRef_eq_1, q_K_noRef_eq_1, q_K_noRef_eq_3, q_O_noRef_eq_1, q_List_map_cons, q_List_map_nil, q_List_foldl_cons, q_List_foldl_nil, q_List_replicate_succ, q_List_replicate_zero, q_List_set_cons_zero, q_List_set_cons_succ, q_List_length_cons, q_List_length_nil, true_and, if_true, reduceCtorEq, forall_eq_or_imp, forall_eq, or_false, and_self, bne_iff_ne, ne_eq, Bool.and_eq_true, Bool.and_true, Bool.true_and, Bool.or_true, Bool.false_or, List.mem_cons, Nat.reduceAdd, Nat.reduceEqDiff, Nat.reduceLT, Nat.reduceBEq, Nat.zero_add, q_learn_eq_1, not_false_eq_true, q_condK_eq_1, q_condB_eq_2, decide_false, lookT_here, lookT_next, Int.reduceLT, Int.cast_ofNat_Int, lookO_here, List.not_mem_nil, r_all_noRef, uf44b14, uf44r15, uf44b16, uf44b17, uf44b24, uf44b25, uf44r26, uf44b27]
    rw [uf44l13]
    refine awl_loop (fun i : Nat => [(0, .k (.ptr 0 0)), (1, .k (.ptr 1 0)), (11, .k (.own 11)), (12, .int .i64 10), (13, .int .i64 i)])
      (fun i => [(0, .var 65 rowZ), (1, .var 65 ((kindsC (k2 i)).map .c)), (11, .arr 3 1 (some false) (ints asks))]) (fun i => i ≤ 10) (fun i => 10 - i) 0 rfl rfl (Nat.zero_le _) ?_
    intro i hi
    by_cases hlt : i < 10
    · have h10 : i = 0 ∨ i = 1 ∨ i = 2 ∨ i = 3 ∨ i = 4 ∨ i = 5 ∨ i = 6 ∨ i = 7 ∨ i = 8 ∨ i = 9 := by omega
      have c1 : (i : Int) < 10 := by omega
      have c4 : IntKind.i64.wrap ((i : Int) + 1) = (i : Int) + 1 := wrap_in (by omega) (by omega)
      have hla : i < asks.length := by simp [asks]; omega
      have hq : ∀ j (h : j < asks.length), 0 ≤ asks[j] ∧ asks[j] < 22 := by decide
      replace hq := hq i hla
      have h1 := hq.1
      have h2 := hq.2
      have c5 : asks[i].toNat + 1 ≤ 22 := by omega
      have c6 : (i : Int) < asks.length := by simp [asks]; omega
      simp only [c1, c4, c5, c6, h1, h2, ints_at hla, kindsC_len, List.length_map, q_wpLs_eq_1, q_wpLs_eq_2, q_wpL_eq_1, q_exL_eq_1, q_exL_eq_8, q_exL_eq_9, q_exL_eq_11, q_exL_eq_23, q_exL_eq_24, q_look_eq_1, q_look_eq_2, q_insT_eq_1, q_insO_eq_1, q_awl_eq_1, q_awl_eq_2, q_awl_eq_5, q_awl_eq_6, q_awl_eq_7, q_AE_thenL_eq_1, q_AE_inBlockL_eq_1, q_putK_eq_1, q_vBin_eq_1, q_resV_eq_1, q_binV_eq_1, q_binInt_eq_3, q_cutInt_eq_1, q_cutInt_eq_8, q_partV_eq_2, q_loadO_eq_2, q_isA_eq_1, q_vLoad_eq_3, q_vIaddr_eq_2, q_idxO_eq_1, q_vIaddrA_eq_1, q_V_cells_eq_1, q_splice_eq_1, q_isVarO_eq_1, q_stVarK_eq_1, q_storeK_eq_1, q_List_length_cons, q_List_length_nil, q_List_getD_cons_zero, true_and, if_true, and_self, Nat.reduceBEq, Nat.zero_add, Int.toNat_natCast, Nat.le_refl, Int.natCast_nonneg, q_learn_eq_1, q_condK_eq_1, q_condB_eq_1, decide_true, ints_len, List.length_map, lookT_here, lookT_next, Int.cast_ofNat_Int, lookO_here, lookO_next, Nat.mul_one, uf44r3, uf44r4, uf44r5, uf44b6, uf44b7, uf44b8, uf44b9, uf44b10, uf44r11, uf44b12]
      refine Next.intro (i + 1) rfl ?_ (by omega) (by omega)
      rcases h10 with rfl | rfl | rfl | rfl | rfl | rfl | rfl | rfl | rfl | rfl <;> rfl
    · have c1 : ¬ (i : Int) < 10 := by omega
      obtain rfl : i = 10 := by omega
      simp only [c1, kindsC_len, List.length_map, r_ofRow_take (kindsC_len _), q_wpLs_eq_1, q_wpLs_eq_2, q_wpL_eq_1, q_exL_eq_8, q_exL_eq_9, q_exL_eq_11, q_look_eq_1, q_insT_eq_1, q_insO_eq_1, q_awl_eq_2, q_awl_eq_5, q_awl_eq_6, q_awl_eq_9, q_awl_eq_10, q_AE_thenL_eq_1, q_AE_thenL_eq_2, q_AE_inBlockL_eq_2, q_putK_eq_1, q_vBin_eq_1, q_resV_eq_1, q_binV_eq_1, q_binInt_eq_3, q_cutInt_eq_8, q_loadO_eq_1, q_isV_eq_1, q_vLoad_eq_1, q_V_cells_eq_2, q_splice_eq_1, q_stVarK_eq_1, q_storeK_eq_1, q_mapT_eq_1, q_mapT_eq_2, q_mapO_eq_1, q_mapO_eq_2, q_endK_eq_2, q_endL_eq_1, q_endV_eq_1, q_resL_eq_1, q_resL_eq_2, q_resX_eq_2, q_resCell_eq_1, q_one_eq_1, q_V_nrm_eq_1, q_V_nrm_eq_2, q_K_nrm_eq_1, q_K_nrm_eq_3, q_O_nrm_eq_1, q_O_nrm_eq_2, q_C_norm_eq_4, q_C_norm_eq_5, q_List_take_zero, q_List_drop_zero, q_List_nil_append, true_and, and_true, if_true, Nat.reduceLT, Nat.reduceBEq, Nat.zero_add, Nat.le_refl, q_learn_eq_1, q_condK_eq_1, q_condB_eq_2, decide_false, normRows_ints, List.length_map, r_ofRow_take, lookT_here, lookT_next, Int.reduceLT, Int.cast_ofNat_Int, lookO_here, lookO_next, r_map_nrm, uf44r1, uf44b2, uf44b9, uf44b10, uf44r11, uf44b12]
      refine ⟨by decide, ?_, ?_⟩
      · exact List.nodup_nil
      · exact hS
theorem kinds_at {n : Int} (h1 : 0 ≤ n) (h2 : n < 22) : List.take 1 (List.drop n.toNat (kindsRow.map Abs.K.c)) = [.c (.int .i64 (qtype n))] := by
  obtain ⟨m, rfl⟩ : ∃ m : Nat, n = m := ⟨n.toNat, by omega⟩
  have h22 : m = 0 ∨ m = 1 ∨ m = 2 ∨ m = 3 ∨ m = 4 ∨ m = 5 ∨ m = 6 ∨ m = 7 ∨ m = 8 ∨ m = 9 ∨ m = 10 ∨ m = 11 ∨ m = 12 ∨ m = 13 ∨ m = 14 ∨ m = 15 ∨ m = 16 ∨ m = 17 ∨ m = 18 ∨ m = 19 ∨ m = 20 ∨ m = 21 := by omega
  rcases h22 with rfl | rfl | rfl | rfl | rfl | rfl | rfl | rfl | rfl | rfl | rfl | rfl | rfl | rfl | rfl | rfl | rfl | rfl | rfl | rfl | rfl | rfl <;> rfl
theorem kindsRow_len : kindsRow.length = 22 := kindsC_len _
theorem s16 (q : Int) : Spec Try.prog 16 [.int .i64 q] (fun r => r = typeQ q) := by
  refine Spec.of_awlS hf16 okf16 (by simp) fun S hS => ?_
  by_cases h1 : q < 0
  · simp only [h1, q_wpLs_eq_1, q_wpLs_eq_2, q_wpL_eq_1, q_putDL_eq_1, q_AOp_dst_eq_1, q_AOp_dst_eq_10, q_exL_eq_1, q_exL_eq_3, q_exL_eq_11, q_look_eq_1, q_look_eq_2, q_lookO_eq_1, q_insT_eq_1, q_awl_eq_2, q_awl_eq_5, q_awl_eq_6, q_awl_eq_10, q_AE_thenL_eq_1, q_AE_thenL_eq_3, q_initT_eq_1, q_initT_eq_2, q_putK_eq_1, q_vBin_eq_1, q_resV_eq_1, q_binV_eq_1, q_binInt_eq_3, q_cutInt_eq_8, q_vPick_eq_2, q_mapT_eq_1, q_mapT_eq_2, q_mapO_eq_1, q_endK_eq_2, q_endL_eq_1, q_endV_eq_1, q_resL_eq_1, q_resL_eq_2, q_resX_eq_1, q_one_eq_2, q_V_nrm_eq_1, q_V_nrm_eq_5, q_K_nrm_eq_1, q_V_owns_eq_1, q_V_owns_eq_3, q_K_owns_eq_2, q_V_ownsL_eq_1, q_V_ownsL_eq_2, q_V_toNew_eq_1, q_V_toNew_eq_4, q_K_toNew_eq_1, q_V_toNewL_eq_1, q_V_toNewL_eq_2, q_C_norm_eq_4, q_C_norm_eq_5, q_Bool_not_false, true_and, if_true, and_self, List.append_nil, List.nodup_nil, Nat.reduceBEq, Nat.zero_add, q_learn_eq_1, q_guardP_eq_2, q_condK_eq_1, q_condB_eq_1, decide_true, lookT_here, lookT_next, uf16, uf16r3, uf16b4, uf16b5, uf16r6, uf16b7, uf16b8, uf16r9, uf16b10]
    exact fin hS (by rw [typeQ, if_pos (.inl h1)])
  by_cases h2 : q ≥ 22
  · simp only [h1, h2, q_wpLs_eq_1, q_wpLs_eq_2, q_wpL_eq_1, q_AOp_dst_eq_1, q_AOp_dst_eq_10, q_exL_eq_1, q_exL_eq_3, q_exL_eq_11, q_look_eq_1, q_look_eq_2, q_lookO_eq_1, q_insT_eq_1, q_awl_eq_2, q_awl_eq_5, q_awl_eq_6, q_awl_eq_10, q_AE_thenL_eq_1, q_AE_thenL_eq_3, q_initT_eq_1, q_initT_eq_2, q_putK_eq_1, q_vBin_eq_1, q_resV_eq_1, q_binV_eq_1, q_binInt_eq_3, q_cutInt_eq_8, q_cutInt_eq_11, q_vPick_eq_1, q_mapT_eq_1, q_mapT_eq_2, q_mapO_eq_1, q_endK_eq_2, q_endL_eq_1, q_endV_eq_1, q_resL_eq_1, q_resL_eq_2, q_resX_eq_1, q_one_eq_2, q_V_nrm_eq_1, q_K_nrm_eq_1, q_V_owns_eq_1, q_V_owns_eq_3, q_K_owns_eq_2, q_V_ownsL_eq_1, q_V_ownsL_eq_2, q_V_toNew_eq_1, q_V_toNew_eq_4, q_K_toNew_eq_1, q_V_toNewL_eq_1, q_V_toNewL_eq_2, q_C_norm_eq_4, q_C_norm_eq_5, q_Bool_not_false, true_and, if_true, if_false, Bool.false_eq_true, and_self, List.append_nil, List.nodup_nil, Nat.reduceBEq, Nat.zero_add, q_learn_eq_1, q_guardP_eq_2, q_condK_eq_1, q_condB_eq_1, q_condB_eq_2, q_exK_eq_1, decide_true, decide_false, lookT_here, lookT_next, uf16, uf16r3, uf16b4, uf16b5, uf16r6, uf16b7, uf16b8, uf16r9, uf16b10]
    exact fin hS (by rw [typeQ, if_pos (.inr h2)])
  rw [typeQ, if_neg (by omega)] at hS
  simp only [h1, h2, q_wpLs_eq_1, q_wpLs_eq_2, q_wpL_eq_1, q_AOp_dst_eq_1, q_AOp_dst_eq_10, q_exL_eq_1, q_exL_eq_3, q_exL_eq_11, q_exL_eq_28, q_look_eq_1, q_look_eq_2, q_insT_eq_1, q_awl_eq_1, q_awl_eq_2, q_awl_eq_5, q_awl_eq_6, q_AE_thenL_eq_1, q_initT_eq_1, q_initT_eq_2, q_putK_eq_1, q_vBin_eq_1, q_resV_eq_1, q_binV_eq_1, q_binInt_eq_3, q_cutInt_eq_8, q_cutInt_eq_11, q_vPick_eq_1, q_Bool_not_false, q_List_map_nil, true_and, if_true, if_false, Bool.false_eq_true, Nat.reduceBEq, Nat.zero_add, q_learn_eq_1, q_guardP_eq_2, q_condK_eq_1, q_condB_eq_2, q_exK_eq_1, decide_false, lookT_here, lookT_next, uf16, uf16r1, uf16b2, uf16b5, uf16r6, uf16b7, uf16b8, uf16r9, uf16b10]
  refine call_r s44 ?_
  have e := kinds_at (n := q) (by omega) (by omega)
  have h3 : 0 ≤ q := by omega
  have h4 : q < 22 := by omega
  rw [← List.map_drop, ← List.map_take] at e
  simp only [h3, h4, kindsRow_len, e, q_wpLs_eq_1, q_wpLs_eq_2, q_wpL_eq_1, q_exL_eq_1, q_exL_eq_26, q_look_eq_1, q_look_eq_2, q_lookO_eq_1, q_insT_eq_1, q_awl_eq_10, q_putK_eq_1, q_vAidx_eq_1, q_ofRow_eq_1, q_pureRow_eq_1, q_pureRow_eq_2, q_mapT_eq_1, q_mapT_eq_2, q_mapO_eq_1, q_endK_eq_2, q_endL_eq_1, q_endV_eq_1, q_resL_eq_1, q_resL_eq_2, q_resX_eq_1, q_one_eq_2, q_V_nrm_eq_1, q_V_nrm_eq_2, q_K_nrm_eq_1, q_V_owns_eq_1, q_V_owns_eq_3, q_K_owns_eq_2, q_V_ownsL_eq_1, q_V_ownsL_eq_2, q_V_toNew_eq_1, q_V_toNew_eq_4, q_K_toNew_eq_1, q_V_toNewL_eq_1, q_V_toNewL_eq_2, q_C_norm_eq_4, q_C_norm_eq_5, q_regN_eq_2, q_V_reg_eq_4, q_freesL_eq_1, q_addsL_eq_1, q_regK_eq_1, q_retK_eq_2, q_Option_map_some, q_List_length_nil, true_and, if_false, Bool.false_eq_true, and_self, List.append_nil, List.nodup_nil, Nat.reduceAdd, Nat.reduceMul, Nat.reduceBEq, lookT_here, lookT_next, Int.cast_ofNat_Int, Nat.mul_one]
  exact fin hS rfl
end Go.Abs


set_option maxRecDepth 100000
set_option maxHeartbeats 4000000
namespace Go.Abs
open Go.Proofs
abbrev orV (o : Order) : List K := (encOrder o).map .c
theorem s15 (o : Order) : Spec Try.prog 15 [.agg (encOrder o)] (fun r => r = .bool (fewO o)) := by
  refine Spec.of_len hf15 fun hlen => ?_
  have hl := (len_rules (o := o) List.mem_cons_self hlen).2
  clear hlen
  refine Spec.of_awlS hf15 okf15 (by simp) fun S hS => ?_
  by_cases h1 : (o.choices.length : Int) > 60
  · simp only [h1, q_wpLs_eq_1, q_wpLs_eq_2, q_wpL_eq_1, q_putDL_eq_1, q_AOp_dst_eq_8, q_AOp_dst_eq_10, q_AOp_dst_eq_20, q_AOp_dst_eq_27, q_exL_eq_1, q_exL_eq_3, q_exL_eq_5, q_exL_eq_8, q_exL_eq_11, q_exL_eq_21, q_exL_eq_30, q_look_eq_1, q_look_eq_2, q_insT_eq_1, q_insO_eq_1, q_awl_eq_2, q_awl_eq_5, q_awl_eq_6, q_awl_eq_10, q_AE_thenL_eq_1, q_AE_thenL_eq_3, q_initT_eq_1, q_initT_eq_2, q_putK_eq_1, q_vBin_eq_1, q_resV_eq_1, q_binV_eq_1, q_binInt_eq_3, q_cutInt_eq_10, q_vFaddr_eq_1, q_loadO_eq_1, q_isV_eq_1, q_vLoad_eq_1, q_vPick_eq_2, q_isVarO_eq_1, q_boxK_eq_1, q_mapT_eq_1, q_mapT_eq_2, q_mapO_eq_1, q_mapO_eq_2, q_freeB_eq_1, q_freeT_eq_1, q_freeT_eq_2, q_freeO_eq_1, q_V_noRef_eq_2, q_endK_eq_2, q_endL_eq_1, q_endV_eq_1, q_resL_eq_1, q_resL_eq_2, q_resX_eq_1, q_one_eq_1, q_V_nrm_eq_1, q_V_nrm_eq_2, q_V_nrm_eq_5, q_K_nrm_eq_1, q_K_nrm_eq_3, q_O_nrm_eq_1, q_V_owns_eq_1, q_K_owns_eq_2, q_V_toNew_eq_1, q_K_toNew_eq_1, q_C_norm_eq_4, q_C_norm_eq_5, q_Bool_not_false, true_and, if_true, and_self, Bool.and_true, Bool.or_true, List.nodup_nil, Nat.reduceAdd, Nat.reduceLeDiff, Nat.reduceBEq, Nat.zero_add, q_learn_eq_1, q_guardP_eq_2, q_condK_eq_1, q_condB_eq_1, decide_true, r_vLen_lst, norm_lst, normRows_Ch, encOrder_norm, List.length_map, encOrder_len, lookT_here, lookT_next, lookO_here, f_or2, r_map_nrm, uf15, uf15r20, uf15b21, uf15b22, uf15r23, uf15b24, uf15b25, uf15r26, uf15b27]
    exact fin hS (by rw [fewO, if_pos (.inl (by omega))])
  by_cases h2 : (o.rules.length : Int) > 60
  · simp only [h1, h2, q_wpLs_eq_1, q_wpLs_eq_2, q_wpL_eq_1, q_AOp_dst_eq_8, q_AOp_dst_eq_10, q_AOp_dst_eq_20, q_AOp_dst_eq_27, q_exL_eq_1, q_exL_eq_3, q_exL_eq_5, q_exL_eq_8, q_exL_eq_11, q_exL_eq_21, q_exL_eq_30, q_look_eq_1, q_look_eq_2, q_insT_eq_1, q_insO_eq_1, q_awl_eq_2, q_awl_eq_5, q_awl_eq_6, q_awl_eq_10, q_AE_thenL_eq_1, q_AE_thenL_eq_3, q_initT_eq_1, q_initT_eq_2, q_putK_eq_1, q_vBin_eq_1, q_resV_eq_1, q_binV_eq_1, q_binInt_eq_3, q_cutInt_eq_10, q_vFaddr_eq_1, q_loadO_eq_1, q_isV_eq_1, q_vLoad_eq_1, q_vPick_eq_1, q_isVarO_eq_1, q_boxK_eq_1, q_mapT_eq_1, q_mapT_eq_2, q_mapO_eq_1, q_mapO_eq_2, q_freeB_eq_1, q_freeT_eq_1, q_freeT_eq_2, q_freeO_eq_1, q_V_noRef_eq_2, q_endK_eq_2, q_endL_eq_1, q_endV_eq_1, q_resL_eq_1, q_resL_eq_2, q_resX_eq_1, q_one_eq_1, q_V_nrm_eq_1, q_V_nrm_eq_2, q_K_nrm_eq_1, q_K_nrm_eq_3, q_O_nrm_eq_1, q_V_owns_eq_1, q_K_owns_eq_2, q_V_toNew_eq_1, q_K_toNew_eq_1, q_C_norm_eq_4, q_C_norm_eq_5, q_Bool_not_false, true_and, if_true, if_false, Bool.false_eq_true, and_self, Bool.and_true, Bool.or_true, List.nodup_nil, Nat.reduceAdd, Nat.reduceLeDiff, Nat.reduceBEq, Nat.zero_add, Nat.le_refl, q_learn_eq_1, q_guardP_eq_2, q_condK_eq_1, q_condB_eq_1, q_condB_eq_2, q_exK_eq_1, decide_true, decide_false, r_vLen_lst, norm_lst, normRows_Ch, normRows_R, encOrder_norm, List.length_map, encOrder_len, lookT_here, lookT_next, lookO_here, f_or2, f_or3, r_map_nrm, uf15, uf15r20, uf15b21, uf15b22, uf15r23, uf15b24, uf15b25, uf15r26, uf15b27]
    exact fin hS (by rw [fewO, if_pos (.inr (by omega))])
  rw [fewO, if_neg (by omega)] at hS
  simp only [h1, h2, q_wpLs_eq_1, q_wpLs_eq_2, q_wpL_eq_1, q_AOp_dst_eq_8, q_AOp_dst_eq_10, q_AOp_dst_eq_20, q_AOp_dst_eq_27, q_exL_eq_1, q_exL_eq_3, q_exL_eq_5, q_exL_eq_8, q_exL_eq_11, q_exL_eq_21, q_exL_eq_30, q_look_eq_1, q_look_eq_2, q_insT_eq_1, q_insO_eq_1, q_awl_eq_1, q_awl_eq_2, q_awl_eq_5, q_awl_eq_6, q_awl_eq_7, q_AE_thenL_eq_1, q_initT_eq_1, q_initT_eq_2, q_putK_eq_1, q_vBin_eq_1, q_resV_eq_1, q_binV_eq_1, q_binInt_eq_3, q_cutInt_eq_10, q_vFaddr_eq_1, q_loadO_eq_1, q_isV_eq_1, q_vLoad_eq_1, q_vPick_eq_1, q_isVarO_eq_1, q_boxK_eq_1, q_freeB_eq_1, q_freeT_eq_1, q_freeT_eq_2, q_freeO_eq_1, q_V_noRef_eq_2, q_Bool_not_false, true_and, if_true, if_false, Bool.false_eq_true, Bool.and_true, Bool.or_true, Nat.reduceAdd, Nat.reduceLeDiff, Nat.reduceBEq, Nat.zero_add, Nat.le_refl, q_learn_eq_1, q_guardP_eq_2, q_condK_eq_1, q_condB_eq_2, q_exK_eq_1, decide_false, r_vLen_lst, List.length_map, encOrder_len, lookT_here, lookT_next, lookO_here, f_or2, f_or3, uf15, uf15b16, uf15r17, uf15b18, uf15b19, uf15b22, uf15r23, uf15b24, uf15b25, uf15r26, uf15b27]
  rw [uf15l15]
  refine awl_loop (fun i : Nat => [(1, .k (.ptr 1 0)), (3, .int .i64 i)]) (fun _ => [(1, .var 25 (orV o))])
    (fun i => i ≤ o.rules.length ∧ fewR (o.rules.drop i) = fewR o.rules) (fun i => o.rules.length - i) 0 rfl rfl ⟨Nat.zero_le _, rfl⟩ ?_
  rintro i ⟨hi, hj⟩
  by_cases hlt : i < o.rules.length
  · have c1 : (i : Int) < o.rules.length := by omega
    have c4 : IntKind.i64.wrap ((i : Int) + 1) = (i : Int) + 1 := wrap_in (by omega) (by omega)
    rw [fewR_drop hlt] at hj
    simp only [c1, c4, map_at hlt, q_wpLs_eq_1, q_wpLs_eq_2, q_wpL_eq_1, q_exL_eq_1, q_exL_eq_8, q_exL_eq_11, q_exL_eq_21, q_exL_eq_23, q_exL_eq_28, q_exL_eq_30, q_look_eq_1, q_insT_eq_1, q_awl_eq_1, q_awl_eq_2, q_awl_eq_5, q_awl_eq_6, q_awl_eq_7, q_AE_thenL_eq_1, q_putK_eq_1, q_vBin_eq_1, q_resV_eq_1, q_binV_eq_1, q_binInt_eq_3, q_cutInt_eq_8, q_vFaddr_eq_1, q_vFaddr_eq_3, q_partV_eq_1, q_loadO_eq_1, q_isV_eq_1, q_vLoad_eq_1, q_vLoad_eq_2, q_isVarO_eq_1, q_List_map_cons, q_List_map_nil, true_and, if_true, if_false, and_self, Nat.reduceAdd, Nat.reduceEqDiff, Nat.reduceBEq, Nat.succ_ne_self, Nat.zero_add, Int.toNat_natCast, Nat.le_refl, Int.natCast_nonneg, q_learn_eq_1, q_condK_eq_1, q_condB_eq_1, decide_true, r_vLen_lst, r_vIaddr_lst, List.length_map, encOrder_len, lookT_here, lookT_next, lookO_here, g_rule1, f_or3, uf15r3, uf15r7, uf15b8, uf15b9, uf15b10, uf15b11, uf15r12, uf15b13, uf15b14]
    refine call_s (s30 o.rules[i].term) ?_
    cases h : few o.rules[i].term
    · rw [if_pos h] at hj
      simp only [h, q_wpLs_eq_1, q_wpLs_eq_2, q_wpL_eq_1, q_exL_eq_1, q_exL_eq_15, q_look_eq_1, q_look_eq_2, q_insT_eq_1, q_awl_eq_2, q_awl_eq_5, q_awl_eq_6, q_awl_eq_10, q_AE_thenL_eq_1, q_AE_thenL_eq_3, q_AE_inBlockL_eq_3, q_putK_eq_1, q_vUn_eq_1, q_unV_eq_2, q_mapC_eq_1, q_mapT_eq_1, q_mapT_eq_2, q_mapO_eq_1, q_mapO_eq_2, q_endK_eq_2, q_endL_eq_1, q_endV_eq_1, q_resL_eq_1, q_resL_eq_2, q_resX_eq_1, q_one_eq_1, q_V_nrm_eq_1, q_V_nrm_eq_2, q_K_nrm_eq_1, q_K_nrm_eq_2, q_K_nrm_eq_3, q_O_nrm_eq_1, q_V_owns_eq_1, q_K_owns_eq_2, q_V_toNew_eq_1, q_K_toNew_eq_1, q_C_norm_eq_4, q_C_norm_eq_5, q_Bool_not_false, true_and, and_self, List.nodup_nil, q_learn_eq_1, q_condK_eq_1, q_condB_eq_1, norm_lst, normRows_R, encT_norm, encOrder_norm, lookT_here, r_map_nrm, uf15r4, uf15b5, uf15b6]
      exact fin hS (by rw [← hj])
    · rw [if_neg (by simp [h])] at hj
      simp only [h, c4, q_wpLs_eq_1, q_wpLs_eq_2, q_wpL_eq_1, q_exL_eq_1, q_exL_eq_11, q_exL_eq_15, q_look_eq_1, q_look_eq_2, q_insT_eq_1, q_awl_eq_1, q_awl_eq_2, q_awl_eq_6, q_AE_thenL_eq_1, q_AE_inBlockL_eq_1, q_putK_eq_1, q_vBin_eq_1, q_resV_eq_1, q_binV_eq_1, q_binInt_eq_3, q_cutInt_eq_1, q_vUn_eq_1, q_unV_eq_2, q_mapC_eq_1, q_Bool_not_true, true_and, if_true, Nat.reduceBEq, q_learn_eq_1, q_condK_eq_1, q_condB_eq_2, lookT_here, lookT_next, uf15b6]
      exact Next.intro (i + 1) rfl rfl ⟨by omega, hj⟩ (by omega)
  · have c1 : ¬ (i : Int) < o.rules.length := by omega
    simp only [c1, q_wpLs_eq_1, q_wpLs_eq_2, q_wpL_eq_1, q_exL_eq_1, q_exL_eq_8, q_exL_eq_11, q_exL_eq_21, q_exL_eq_30, q_look_eq_1, q_look_eq_2, q_insT_eq_1, q_awl_eq_2, q_awl_eq_5, q_awl_eq_6, q_awl_eq_9, q_awl_eq_10, q_AE_thenL_eq_1, q_AE_thenL_eq_2, q_AE_inBlockL_eq_2, q_putK_eq_1, q_vBin_eq_1, q_resV_eq_1, q_binV_eq_1, q_binInt_eq_3, q_cutInt_eq_8, q_vFaddr_eq_1, q_loadO_eq_1, q_isV_eq_1, q_vLoad_eq_1, q_isVarO_eq_1, q_mapT_eq_1, q_mapT_eq_2, q_mapO_eq_1, q_mapO_eq_2, q_endK_eq_2, q_endL_eq_1, q_endV_eq_1, q_resL_eq_1, q_resL_eq_2, q_resX_eq_1, q_one_eq_1, q_V_nrm_eq_1, q_K_nrm_eq_1, q_K_nrm_eq_3, q_O_nrm_eq_1, q_V_owns_eq_1, q_K_owns_eq_2, q_V_toNew_eq_1, q_K_toNew_eq_1, q_C_norm_eq_4, q_C_norm_eq_5, true_and, if_true, and_self, List.nodup_nil, Nat.reduceAdd, Nat.reduceBEq, Nat.zero_add, Nat.le_refl, q_learn_eq_1, q_condK_eq_1, q_condB_eq_2, decide_false, r_vLen_lst, norm_lst, normRows_R, encOrder_norm, List.length_map, encOrder_len, lookT_here, lookT_next, lookO_here, f_or3, r_map_nrm, uf15r1, uf15b2, uf15b11, uf15r12, uf15b13, uf15b14]
    rw [List.drop_eq_nil_of_le (by omega), fewR] at hj
    exact fin hS (by rw [← hj])
theorem rls_range : ∀ (l : List Rule) (last : Int), rls l last = true → ∀ r ∈ l, last < r.ask ∧ r.ask < 22
  | [], _, _, r, h => by simp at h
  | a :: l, last, h, r, hr => by
    simp only [rls] at h
    split at h
    · simp at h
    · rename_i hc
      have hc : last < a.ask ∧ a.ask < 22 := by simpa using hc
      rcases List.mem_cons.1 hr with rfl | hr
      · exact hc
      · have := rls_range l a.ask h r hr; omega
theorem s20 (o : Order) : Spec Try.prog 20 [.agg (encOrder o)] (fun r => r = .int .i64 (checkO o)) := by
  refine Spec.of_len hf20 fun hlen => ?_
  have hl := len_rules (o := o) List.mem_cons_self hlen
  clear hlen
  obtain ⟨hl1, hl2⟩ := hl
  refine Spec.of_awlS hf20 okf20 (by simp) fun S hS => ?_
  simp only [q_wpLs_eq_1, q_wpLs_eq_2, q_wpL_eq_1, q_exL_eq_1, q_exL_eq_5, q_exL_eq_8, q_exL_eq_21, q_exL_eq_30, q_look_eq_1, q_look_eq_2, q_insT_eq_1, q_insO_eq_1, q_awl_eq_2, q_awl_eq_5, q_awl_eq_7, q_AE_thenL_eq_1, q_initT_eq_1, q_initT_eq_2, q_putK_eq_1, q_vFaddr_eq_1, q_loadO_eq_1, q_isV_eq_1, q_vLoad_eq_1, q_isVarO_eq_1, q_boxK_eq_1, q_freeB_eq_1, q_freeT_eq_1, q_freeT_eq_2, q_freeO_eq_1, q_V_noRef_eq_2, true_and, Bool.and_true, Bool.or_true, Int.reduceNeg, Nat.reduceAdd, Nat.reduceLeDiff, Nat.reduceBEq, Nat.zero_add, r_vLen_lst, List.length_map, encOrder_len, lookT_here, lookT_next, lookO_here, f_or2, uf20, uf20b72, uf20r73, uf20b74, uf20b75, uf20r76, uf20b77, uf20r78, uf20b79]
  rw [uf20l71]
  refine awl_loop (fun x : Nat × Int => [(1, .k (.ptr 1 0)), (3, .int .i64 x.2), (14, lst 3 (o.choices.map encChoice)), (15, .int .i64 o.choices.length), (16, .int .i64 x.1)]) (fun _ => [(1, .var 25 (orV o))])
    (fun x => x.1 ≤ o.choices.length ∧ chs (o.choices.drop x.1) x.2 = chs o.choices (-1)) (fun x => o.choices.length - x.1) (0, -1) rfl rfl ⟨Nat.zero_le _, rfl⟩ ?_
  rintro ⟨i, last⟩ ⟨hi, hj⟩
  simp only [] at hi hj
  by_cases hlt : i < o.choices.length
  · have c1 : (i : Int) < o.choices.length := by omega
    have c4 : IntKind.i64.wrap ((i : Int) + 1) = (i : Int) + 1 := wrap_in (by omega) (by omega)
    rw [chs_drop hlt] at hj
    simp only [c1, c4, map_at hlt, q_wpLs_eq_1, q_wpLs_eq_2, q_wpL_eq_1, q_exL_eq_1, q_exL_eq_4, q_exL_eq_8, q_exL_eq_9, q_exL_eq_11, q_exL_eq_21, q_exL_eq_23, q_exL_eq_28, q_look_eq_1, q_insT_eq_1, q_insO_eq_1, q_awl_eq_1, q_awl_eq_2, q_awl_eq_5, q_awl_eq_6, q_awl_eq_7, q_AE_thenL_eq_1, q_putK_eq_1, q_vBin_eq_1, q_resV_eq_1, q_binV_eq_1, q_binInt_eq_3, q_cutInt_eq_8, q_vFaddr_eq_1, q_partV_eq_1, q_loadO_eq_1, q_isV_eq_1, q_vLoad_eq_1, q_vLoad_eq_2, q_V_cells_eq_2, q_splice_eq_1, q_isVarO_eq_1, q_stVarK_eq_1, q_storeK_eq_1, q_freeB_eq_1, q_freeT_eq_1, q_freeT_eq_2, q_freeO_eq_1, q_freeO_eq_2, q_V_noRef_eq_1, q_V_noRef_eq_2, q_K_noRef_eq_1, q_K_noRef_eq_3, q_K_noRef_eq_5, q_O_noRef_eq_1, q_List_map_cons, q_List_map_nil, q_List_take_zero, q_List_drop_succ_cons, q_List_drop_zero, q_List_nil_append, q_List_length_cons, q_List_length_nil, true_and, if_true, and_self, bne_iff_ne, ne_eq, Bool.and_true, Bool.true_and, Bool.or_true, Bool.false_or, Int.reduceNeg, List.append_nil, Nat.reduceAdd, Nat.reduceEqDiff, Nat.reduceLeDiff, Nat.reduceBEq, Nat.zero_add, Nat.add_zero, Int.toNat_natCast, Nat.le_refl, Int.natCast_nonneg, q_learn_eq_1, not_false_eq_true, q_condK_eq_1, q_condB_eq_1, decide_true, r_vIaddr_lst, List.length_map, encChoice_len, lookT_here, lookT_next, lookO_here, f_ch0, r_all_noRef, uf20r55, uf20r56, uf20r60, uf20b61, uf20b62, uf20r63, uf20b64, uf20b65, uf20b66, uf20b67, uf20b68, uf20r69, uf20b70]
    refine call_s (s45 last o.choices[i].ask) ?_
    have hbad : (¬ (last < o.choices[i].ask ∧ o.choices[i].ask < 22) ∨ o.choices[i].by_ < 0 ∨ o.choices[i].by_ ≥ 5) → S (.k (.c (.int .i64 1))) := by
      intro h
      rw [if_pos h] at hj
      exact fin hS (by rw [checkO, if_pos hj.symm])
    by_cases h1 : last < o.choices[i].ask ∧ o.choices[i].ask < 22
    · simp only [h1, c4, and_self, q_wpLs_eq_1, q_wpLs_eq_2, q_wpL_eq_1, q_putDL_eq_1, q_AOp_dst_eq_8, q_AOp_dst_eq_10, q_AOp_dst_eq_20, q_exL_eq_1, q_exL_eq_3, q_exL_eq_8, q_exL_eq_11, q_exL_eq_15, q_exL_eq_21, q_look_eq_1, q_look_eq_2, q_insT_eq_1, q_awl_eq_1, q_awl_eq_2, q_awl_eq_5, q_awl_eq_6, q_awl_eq_10, q_AE_thenL_eq_1, q_AE_thenL_eq_3, q_AE_inBlockL_eq_1, q_AE_inBlockL_eq_3, q_putK_eq_1, q_vBin_eq_1, q_resV_eq_1, q_binV_eq_1, q_binInt_eq_3, q_cutInt_eq_1, q_cutInt_eq_8, q_cutInt_eq_11, q_vUn_eq_1, q_unV_eq_2, q_mapC_eq_1, q_vFaddr_eq_1, q_loadO_eq_1, q_isV_eq_1, q_vLoad_eq_1, q_vPick_eq_1, q_vPick_eq_2, q_isVarO_eq_1, q_mapT_eq_1, q_mapT_eq_2, q_mapO_eq_1, q_mapO_eq_2, q_endK_eq_2, q_endL_eq_1, q_endV_eq_1, q_resL_eq_1, q_resL_eq_2, q_resX_eq_1, q_one_eq_1, q_V_nrm_eq_1, q_V_nrm_eq_2, q_V_nrm_eq_5, q_K_nrm_eq_1, q_K_nrm_eq_2, q_K_nrm_eq_3, q_O_nrm_eq_1, q_V_owns_eq_1, q_K_owns_eq_2, q_V_toNew_eq_1, q_K_toNew_eq_1, q_C_norm_eq_4, q_C_norm_eq_5, q_Bool_not_true, q_Bool_not_false, q_List_map_cons, q_List_map_nil, q_List_drop_zero, true_and, if_true, if_false, Bool.false_eq_true, and_self, Int.reduceNeg, List.nodup_nil, Nat.reduceAdd, Nat.reduceLeDiff, Nat.reduceBEq, Nat.zero_add, Nat.add_zero, q_learn_eq_1, q_guardP_eq_2, q_condK_eq_1, q_condB_eq_1, q_condB_eq_2, q_exK_eq_1, condB_decide, decide_true, norm_lst, normRows_Ch, encChoice_norm, encOrder_norm, List.length_map, encChoice_len, lookT_here, lookT_next, lookO_here, f_ch0, f_ch1, r_map_nrm, uf20r57, uf20b58, uf20b59]
      refine ⟨fun h => hbad (.inr (.inl h)), fun h => ⟨fun h2 => hbad (.inr (.inr h2)), fun h2 => ?_⟩⟩
      rw [if_neg (by omega)] at hj
      exact Next.intro (i + 1, o.choices[i].ask) rfl rfl ⟨by simp only []; omega, hj⟩ (by simp only []; omega)
    · simp only [h1, c4, q_wpLs_eq_1, q_wpLs_eq_2, q_wpL_eq_1, q_putDL_eq_1, q_AOp_dst_eq_8, q_AOp_dst_eq_10, q_AOp_dst_eq_20, q_exL_eq_1, q_exL_eq_3, q_exL_eq_15, q_look_eq_1, q_look_eq_2, q_insT_eq_1, q_awl_eq_2, q_awl_eq_5, q_awl_eq_6, q_awl_eq_10, q_AE_thenL_eq_1, q_AE_thenL_eq_3, q_AE_inBlockL_eq_3, q_putK_eq_1, q_vUn_eq_1, q_unV_eq_2, q_mapC_eq_1, q_vPick_eq_2, q_mapT_eq_1, q_mapT_eq_2, q_mapO_eq_1, q_mapO_eq_2, q_endK_eq_2, q_endL_eq_1, q_endV_eq_1, q_resL_eq_1, q_resL_eq_2, q_resX_eq_1, q_one_eq_1, q_V_nrm_eq_1, q_V_nrm_eq_2, q_V_nrm_eq_5, q_K_nrm_eq_1, q_K_nrm_eq_2, q_K_nrm_eq_3, q_O_nrm_eq_1, q_V_owns_eq_1, q_K_owns_eq_2, q_V_toNew_eq_1, q_K_toNew_eq_1, q_C_norm_eq_4, q_C_norm_eq_5, q_Bool_not_false, q_List_map_cons, q_List_map_nil, true_and, and_self, Int.reduceNeg, List.nodup_nil, Nat.reduceBEq, q_learn_eq_1, q_guardP_eq_2, q_condK_eq_1, q_condB_eq_1, decide_false, norm_lst, normRows_Ch, encChoice_norm, encOrder_norm, lookT_here, lookT_next, r_map_nrm, uf20r57, uf20b58, uf20b59]
      exact hbad (.inl h1)
  · have c1 : ¬ (i : Int) < o.choices.length := by omega
    rw [List.drop_eq_nil_of_le (by omega), chs] at hj
    rw [checkO, if_neg (by rw [← hj]; simp)] at hS
    clear hj hlt hi
    simp only [c1, q_wpLs_eq_1, q_wpLs_eq_2, q_wpL_eq_1, q_exL_eq_1, q_exL_eq_8, q_exL_eq_11, q_exL_eq_21, q_exL_eq_30, q_look_eq_1, q_look_eq_2, q_insT_eq_1, q_awl_eq_2, q_awl_eq_5, q_awl_eq_6, q_awl_eq_7, q_awl_eq_9, q_AE_thenL_eq_1, q_AE_thenL_eq_2, q_AE_inBlockL_eq_2, q_putK_eq_1, q_vBin_eq_1, q_resV_eq_1, q_binV_eq_1, q_binInt_eq_3, q_cutInt_eq_8, q_vFaddr_eq_1, q_loadO_eq_1, q_isV_eq_1, q_vLoad_eq_1, q_isVarO_eq_1, true_and, if_true, Int.reduceNeg, Nat.reduceAdd, Nat.reduceBEq, Nat.zero_add, Nat.le_refl, q_learn_eq_1, q_condK_eq_1, q_condB_eq_2, decide_false, r_vLen_lst, List.length_map, encOrder_len, lookT_here, lookT_next, lookO_here, f_or3, uf20b49, uf20r50, uf20b51, uf20b52, uf20r53, uf20b54, uf20b67, uf20b68, uf20r69, uf20b70]
    rw [uf20l48]
    refine awl_loop (fun x : Nat × Int => [(1, .k (.ptr 1 0)), (3, .int .i64 x.2), (39, lst 4 (o.rules.map encRule)), (40, .int .i64 o.rules.length), (41, .int .i64 x.1)]) (fun _ => [(1, .var 25 (orV o))])
      (fun x => x.1 ≤ o.rules.length ∧ rls (o.rules.drop x.1) x.2 = rls o.rules (-1)) (fun x => o.rules.length - x.1) (0, -1) rfl rfl ⟨Nat.zero_le _, rfl⟩ ?_
    rintro ⟨i, last⟩ ⟨hi, hj⟩
    simp only [] at hi hj
    by_cases hlt : i < o.rules.length
    · have c1 : (i : Int) < o.rules.length := by omega
      have c4 : IntKind.i64.wrap ((i : Int) + 1) = (i : Int) + 1 := wrap_in (by omega) (by omega)
      rw [rls_drop hlt] at hj
      simp only [c1, c4, map_at hlt, q_wpLs_eq_1, q_wpLs_eq_2, q_wpL_eq_1, q_exL_eq_1, q_exL_eq_4, q_exL_eq_8, q_exL_eq_9, q_exL_eq_11, q_exL_eq_21, q_exL_eq_23, q_exL_eq_28, q_look_eq_1, q_insT_eq_1, q_insO_eq_1, q_awl_eq_1, q_awl_eq_2, q_awl_eq_5, q_awl_eq_6, q_awl_eq_7, q_AE_thenL_eq_1, q_putK_eq_1, q_vBin_eq_1, q_resV_eq_1, q_binV_eq_1, q_binInt_eq_3, q_cutInt_eq_8, q_vFaddr_eq_1, q_partV_eq_1, q_loadO_eq_1, q_isV_eq_1, q_vLoad_eq_1, q_vLoad_eq_2, q_V_cells_eq_2, q_splice_eq_1, q_isVarO_eq_1, q_stVarK_eq_1, q_storeK_eq_1, q_freeB_eq_1, q_freeT_eq_1, q_freeT_eq_2, q_freeO_eq_1, q_freeO_eq_2, q_V_noRef_eq_1, q_V_noRef_eq_2, q_K_noRef_eq_1, q_K_noRef_eq_3, q_K_noRef_eq_5, q_O_noRef_eq_1, q_List_map_cons, q_List_map_nil, q_List_take_zero, q_List_drop_succ_cons, q_List_drop_zero, q_List_nil_append, q_List_length_cons, q_List_length_nil, true_and, if_true, and_self, bne_iff_ne, ne_eq, Bool.and_true, Bool.true_and, Bool.or_true, Bool.false_or, Int.reduceNeg, List.append_nil, Nat.reduceAdd, Nat.reduceEqDiff, Nat.reduceLeDiff, Nat.reduceBEq, Nat.zero_add, Nat.add_zero, Int.toNat_natCast, Nat.le_refl, Int.natCast_nonneg, q_learn_eq_1, not_false_eq_true, q_condK_eq_1, q_condB_eq_1, decide_true, r_vIaddr_lst, List.length_map, encRule_len, lookT_here, lookT_next, lookO_here, f_rule0, r_all_noRef, uf20r32, uf20r33, uf20r37, uf20b38, uf20b39, uf20r40, uf20b41, uf20b42, uf20b43, uf20b44, uf20b45, uf20r46, uf20b47]
      refine call_s (s45 last o.rules[i].ask) ?_
      by_cases h1 : last < o.rules[i].ask ∧ o.rules[i].ask < 22
      · rw [if_neg (by omega)] at hj
        simp only [h1, c4, and_self, q_wpLs_eq_1, q_wpLs_eq_2, q_wpL_eq_1, q_exL_eq_1, q_exL_eq_8, q_exL_eq_11, q_exL_eq_15, q_exL_eq_21, q_look_eq_1, q_look_eq_2, q_insT_eq_1, q_awl_eq_1, q_awl_eq_2, q_awl_eq_6, q_AE_thenL_eq_1, q_AE_inBlockL_eq_1, q_putK_eq_1, q_vBin_eq_1, q_resV_eq_1, q_binV_eq_1, q_binInt_eq_3, q_cutInt_eq_1, q_vUn_eq_1, q_unV_eq_2, q_mapC_eq_1, q_vFaddr_eq_1, q_loadO_eq_1, q_isV_eq_1, q_vLoad_eq_1, q_isVarO_eq_1, q_Bool_not_true, q_List_drop_zero, true_and, if_true, and_self, Int.reduceNeg, Nat.reduceLeDiff, Nat.reduceBEq, Nat.zero_add, Nat.add_zero, q_learn_eq_1, q_condK_eq_1, q_condB_eq_2, decide_true, List.length_map, encRule_len, lookT_here, lookT_next, lookO_here, f_rule0, uf20b36]
        exact Next.intro (i + 1, o.rules[i].ask) rfl rfl ⟨by simp only []; omega, hj⟩ (by simp only []; omega)
      · rw [if_pos h1] at hj
        simp only [h1, c4, q_wpLs_eq_1, q_wpLs_eq_2, q_wpL_eq_1, q_exL_eq_1, q_exL_eq_15, q_look_eq_1, q_look_eq_2, q_insT_eq_1, q_awl_eq_2, q_awl_eq_5, q_awl_eq_6, q_awl_eq_10, q_AE_thenL_eq_1, q_AE_thenL_eq_3, q_AE_inBlockL_eq_3, q_putK_eq_1, q_vUn_eq_1, q_unV_eq_2, q_mapC_eq_1, q_mapT_eq_1, q_mapT_eq_2, q_mapO_eq_1, q_mapO_eq_2, q_endK_eq_2, q_endL_eq_1, q_endV_eq_1, q_resL_eq_1, q_resL_eq_2, q_resX_eq_1, q_one_eq_1, q_V_nrm_eq_1, q_V_nrm_eq_2, q_K_nrm_eq_1, q_K_nrm_eq_2, q_K_nrm_eq_3, q_O_nrm_eq_1, q_V_owns_eq_1, q_K_owns_eq_2, q_V_toNew_eq_1, q_K_toNew_eq_1, q_C_norm_eq_1, q_C_norm_eq_4, q_C_norm_eq_5, q_C_normRows_eq_1, q_Bool_not_false, q_List_map_cons, q_List_map_nil, q_List_isEmpty_nil, true_and, if_true, and_self, Int.reduceNeg, List.nodup_nil, q_learn_eq_1, q_condK_eq_1, q_condB_eq_1, decide_false, norm_lst, normRows_R, encRule_norm, encOrder_norm, lookT_here, r_map_nrm, uf20r34, uf20b35, uf20b36]
        exact fin hS (by rw [if_pos hj.symm])
    · have c1 : ¬ (i : Int) < o.rules.length := by omega
      rw [List.drop_eq_nil_of_le (by omega), rls] at hj
      rw [if_neg (by rw [← hj]; simp)] at hS
      have hr := hj.symm
      clear hj hlt hi
      simp only [c1, q_wpLs_eq_1, q_wpLs_eq_2, q_wpL_eq_1, q_exL_eq_11, q_exL_eq_28, q_look_eq_1, q_insT_eq_1, q_awl_eq_2, q_awl_eq_5, q_awl_eq_6, q_awl_eq_9, q_AE_thenL_eq_1, q_AE_thenL_eq_2, q_AE_inBlockL_eq_2, q_putK_eq_1, q_vBin_eq_1, q_resV_eq_1, q_binV_eq_1, q_binInt_eq_3, q_cutInt_eq_8, q_List_map_nil, true_and, if_true, Int.reduceNeg, Nat.reduceBEq, q_learn_eq_1, q_condK_eq_1, q_condB_eq_2, decide_false, lookT_here, lookT_next, uf20r30, uf20b31, uf20b44, uf20b45, uf20r46, uf20b47]
      refine call_r s44 ?_
      simp only [kindsRow_len, List.length_map, q_wpLs_eq_1, q_wpLs_eq_2, q_wpL_eq_1, q_exL_eq_1, q_exL_eq_4, q_exL_eq_8, q_exL_eq_9, q_exL_eq_21, q_exL_eq_30, q_look_eq_1, q_look_eq_2, q_insT_eq_1, q_insO_eq_1, q_awl_eq_2, q_awl_eq_5, q_awl_eq_7, q_AE_thenL_eq_1, q_putK_eq_1, q_vFaddr_eq_1, q_loadO_eq_1, q_isV_eq_1, q_vLoad_eq_1, q_V_cells_eq_2, q_splice_eq_1, q_isVarO_eq_1, q_stVarK_eq_1, q_storeK_eq_1, q_freeB_eq_1, q_freeT_eq_1, q_freeT_eq_2, q_freeO_eq_1, q_freeO_eq_2, q_V_noRef_eq_1, q_V_noRef_eq_2, q_K_noRef_eq_1, q_K_noRef_eq_3, q_O_noRef_eq_1, q_regN_eq_2, q_V_reg_eq_4, q_freesL_eq_1, q_addsL_eq_1, q_regK_eq_1, q_retK_eq_2, q_List_map_cons, q_List_map_nil, q_List_take_zero, q_List_drop_succ_cons, q_List_drop_zero, q_List_nil_append, q_List_length_cons, q_List_length_nil, true_and, bne_iff_ne, ne_eq, Bool.and_true, Bool.true_and, Bool.or_true, Bool.false_or, List.append_nil, Nat.reduceAdd, Nat.reduceMul, Nat.reduceEqDiff, Nat.reduceBEq, Nat.zero_add, Nat.le_refl, not_false_eq_true, r_vLen_lst, List.length_map, encOrder_len, lookT_here, lookT_next, lookO_here, lookO_next, f_or3, r_all_noRef, uf20b26, uf20r27, uf20b28, uf20b29]
      rw [uf20l25]
      refine awl_loop (fun i : Nat => [(8, .k (.ptr 8 0)), (55, lst 4 (o.rules.map encRule)), (56, .int .i64 o.rules.length), (57, .int .i64 i)]) (fun _ => [(8, .var 65 (kindsRow.map .c))])
        (fun i => i ≤ o.rules.length ∧ tys (o.rules.drop i) = tys o.rules) (fun i => o.rules.length - i) 0 rfl rfl ⟨Nat.zero_le _, rfl⟩ ?_
      rintro i ⟨hi, hj⟩
      by_cases hlt : i < o.rules.length
      · have c1 : (i : Int) < o.rules.length := by omega
        have c4 : IntKind.i64.wrap ((i : Int) + 1) = (i : Int) + 1 := wrap_in (by omega) (by omega)
        rw [tys_drop hlt] at hj
        obtain ⟨q1, q2⟩ := rls_range _ _ hr o.rules[i] (List.getElem_mem hlt)
        have q3 : 0 ≤ o.rules[i].ask := by omega
        have q4 := kinds_at q3 q2
        have q5 : o.rules[i].ask.toNat + 1 ≤ 22 := by omega
        simp only [c1, c4, map_at hlt, q_wpLs_eq_1, q_wpLs_eq_2, q_wpL_eq_1, q_exL_eq_4, q_exL_eq_8, q_exL_eq_9, q_exL_eq_11, q_exL_eq_21, q_exL_eq_23, q_exL_eq_28, q_look_eq_1, q_insT_eq_1, q_insO_eq_1, q_awl_eq_1, q_awl_eq_2, q_awl_eq_5, q_awl_eq_6, q_awl_eq_7, q_AE_thenL_eq_1, q_putK_eq_1, q_vBin_eq_1, q_resV_eq_1, q_binV_eq_1, q_binInt_eq_3, q_cutInt_eq_8, q_vFaddr_eq_1, q_partV_eq_1, q_loadO_eq_1, q_isV_eq_1, q_vLoad_eq_1, q_vLoad_eq_2, q_V_cells_eq_2, q_splice_eq_1, q_isVarO_eq_1, q_stVarK_eq_1, q_storeK_eq_1, q_freeB_eq_1, q_freeT_eq_1, q_freeT_eq_2, q_freeO_eq_1, q_freeO_eq_2, q_V_noRef_eq_1, q_V_noRef_eq_2, q_K_noRef_eq_1, q_K_noRef_eq_3, q_K_noRef_eq_5, q_O_noRef_eq_1, q_List_map_cons, q_List_map_nil, q_List_take_zero, q_List_drop_succ_cons, q_List_drop_zero, q_List_nil_append, q_List_length_cons, q_List_length_nil, true_and, if_true, and_self, bne_iff_ne, ne_eq, Bool.and_true, Bool.true_and, Bool.or_true, Bool.false_or, List.append_nil, Nat.reduceAdd, Nat.reduceEqDiff, Nat.reduceBEq, Nat.zero_add, Int.toNat_natCast, Nat.le_refl, Int.natCast_nonneg, q_learn_eq_1, not_false_eq_true, q_condK_eq_1, q_condB_eq_1, decide_true, r_vIaddr_lst, List.length_map, encRule_len, lookT_here, lookT_next, lookO_here, f_rule1, r_all_noRef, uf20r3, uf20r15, uf20b16, uf20r17, uf20b18, uf20b19, uf20b20, uf20b21, uf20b22, uf20r23, uf20b24]
        refine call_s (s31 o.rules[i].term) ?_
        simp only [pairV, q2, q3, q4, q5, c4, kindsRow_len, List.length_map, q_wpLs_eq_1, q_wpLs_eq_2, q_wpL_eq_1, q_exL_eq_1, q_exL_eq_8, q_exL_eq_11, q_exL_eq_21, q_exL_eq_24, q_exL_eq_27, q_look_eq_1, q_look_eq_2, q_insT_eq_1, q_awl_eq_1, q_awl_eq_2, q_awl_eq_5, q_awl_eq_6, q_awl_eq_10, q_AE_thenL_eq_1, q_AE_thenL_eq_3, q_AE_inBlockL_eq_1, q_AE_inBlockL_eq_3, q_putK_eq_1, q_vBin_eq_1, q_resV_eq_1, q_binV_eq_1, q_binInt_eq_3, q_cutInt_eq_1, q_cutInt_eq_7, q_vExtr_eq_1, q_vFaddr_eq_1, q_loadO_eq_1, q_isV_eq_1, q_vLoad_eq_1, q_vIaddrA_eq_1, q_ofRow_eq_1, q_pureRow_eq_1, q_pureRow_eq_2, q_isVarO_eq_1, q_mapT_eq_1, q_mapT_eq_2, q_mapO_eq_1, q_mapO_eq_2, q_endK_eq_2, q_endL_eq_1, q_endV_eq_1, q_resL_eq_1, q_resL_eq_2, q_resX_eq_1, q_one_eq_1, q_V_nrm_eq_1, q_V_nrm_eq_2, q_V_nrm_eq_4, q_K_nrm_eq_1, q_K_nrm_eq_2, q_K_nrm_eq_3, q_V_nrmL_eq_1, q_V_nrmL_eq_2, q_O_nrm_eq_1, q_V_owns_eq_1, q_K_owns_eq_2, q_V_toNew_eq_1, q_K_toNew_eq_1, q_C_norm_eq_1, q_C_norm_eq_4, q_C_norm_eq_5, q_C_normRows_eq_1, q_Option_map_some, q_List_map_cons, q_List_map_nil, q_List_drop_zero, q_List_getElemQ_cons_zero, q_List_getElemQ_cons_succ, q_List_isEmpty_nil, true_and, if_true, if_false, Bool.false_eq_true, and_self, List.nodup_nil, Nat.reduceLeDiff, Nat.reduceBEq, Nat.zero_add, Nat.add_zero, q_learn_eq_1, q_condK_eq_1, condB_bne, norm_lst, normRows_R, encT_norm, encRule_norm, List.length_map, encRule_len, lookT_here, lookT_next, Int.cast_ofNat_Int, lookO_here, lookO_next, f_rule0, Nat.mul_one, r_map_nrm, uf20r4, uf20b5, uf20b6, uf20r7, uf20b8, uf20r9, uf20b10, uf20b11, uf20r12, uf20b13, uf20b14]
        refine ⟨fun h => ?_, fun h => ⟨fun h2 => ?_, fun h2 => ?_⟩⟩
        · rw [if_pos h] at hj
          exact fin hS (by rw [← hj])
        · rw [if_neg (by simp [h]), if_pos h2] at hj
          exact fin hS (by rw [← hj])
        · rw [if_neg (by simp [h]), if_neg (by simp [h2])] at hj
          exact Next.intro (i + 1) rfl rfl ⟨by omega, hj⟩ (by omega)
      · have c1 : ¬ (i : Int) < o.rules.length := by omega
        rw [List.drop_eq_nil_of_le (by omega), tys] at hj
        simp only [c1, q_wpLs_eq_1, q_wpLs_eq_2, q_wpL_eq_1, q_exL_eq_1, q_exL_eq_11, q_look_eq_1, q_look_eq_2, q_insT_eq_1, q_awl_eq_2, q_awl_eq_5, q_awl_eq_6, q_awl_eq_9, q_awl_eq_10, q_AE_thenL_eq_1, q_AE_thenL_eq_2, q_AE_inBlockL_eq_2, q_putK_eq_1, q_vBin_eq_1, q_resV_eq_1, q_binV_eq_1, q_binInt_eq_3, q_cutInt_eq_8, q_mapT_eq_1, q_mapT_eq_2, q_mapO_eq_1, q_mapO_eq_2, q_endK_eq_2, q_endL_eq_1, q_endV_eq_1, q_resL_eq_1, q_resL_eq_2, q_resX_eq_1, q_one_eq_1, q_V_nrm_eq_1, q_K_nrm_eq_1, q_K_nrm_eq_3, q_O_nrm_eq_1, q_V_owns_eq_1, q_K_owns_eq_2, q_V_toNew_eq_1, q_K_toNew_eq_1, q_C_norm_eq_4, q_C_norm_eq_5, true_and, if_true, and_self, List.nodup_nil, Nat.reduceBEq, q_learn_eq_1, q_condK_eq_1, q_condB_eq_2, decide_false, norm_lst, normRows_R, lookT_here, lookT_next, r_map_nrm, uf20r1, uf20b2, uf20b21, uf20b22, uf20r23, uf20b24]
        exact fin hS (by rw [← hj])
theorem s18 (l : List Order) : Spec Try.prog 18 [lst 4 (l.map encOrder)] (fun r => r = pairV (ordersO l 0)) := by
  refine Spec.of_len hf18 fun hlen => ?_
  have hl := len_lst (sz := 4) (rows := l.map encOrder) List.mem_cons_self hlen
  rw [List.length_map] at hl
  clear hlen
  refine Spec.of_awlS hf18 okf18 (by simp) fun S hS => ?_
  simp only [q_wpLs_eq_1, q_wpLs_eq_2, q_wpL_eq_1, q_exL_eq_1, q_exL_eq_30, q_look_eq_1, q_look_eq_2, q_lookO_eq_1, q_insT_eq_1, q_awl_eq_2, q_awl_eq_5, q_awl_eq_7, q_AE_thenL_eq_1, q_initT_eq_1, q_initT_eq_2, q_putK_eq_1, true_and, Nat.reduceBEq, Nat.zero_add, r_vLen_lst, List.length_map, lookT_here, lookT_next, uf18, uf18b20, uf18r21, uf18b22, uf18b23, uf18r24, uf18b25]
  rw [uf18l19]
  refine awl_loop (fun i : Nat => [(7, lst 4 (l.map encOrder)), (8, .int .i64 l.length), (9, .int .i64 i)]) (fun _ => [])
    (fun i => i ≤ l.length ∧ ordersO (l.drop i) i = ordersO l 0) (fun i => l.length - i) 0 rfl rfl ⟨Nat.zero_le _, rfl⟩ ?_
  rintro i ⟨hi, hj⟩
  by_cases hlt : i < l.length
  · have c1 : (i : Int) < l.length := by omega
    have c4 : IntKind.i64.wrap ((i : Int) + 1) = (i : Int) + 1 := wrap_in (by omega) (by omega)
    rw [ordersO_drop hlt] at hj
    simp only [c1, map_at hlt, q_wpLs_eq_1, q_wpLs_eq_2, q_wpL_eq_1, q_exL_eq_1, q_exL_eq_4, q_exL_eq_8, q_exL_eq_9, q_exL_eq_11, q_exL_eq_23, q_exL_eq_28, q_look_eq_1, q_lookO_eq_1, q_insT_eq_1, q_insO_eq_1, q_awl_eq_1, q_awl_eq_2, q_awl_eq_5, q_awl_eq_6, q_awl_eq_7, q_AE_thenL_eq_1, q_putK_eq_1, q_vBin_eq_1, q_resV_eq_1, q_binV_eq_1, q_binInt_eq_3, q_cutInt_eq_8, q_partV_eq_1, q_loadO_eq_1, q_isV_eq_1, q_vLoad_eq_1, q_vLoad_eq_2, q_V_cells_eq_2, q_splice_eq_1, q_stVarK_eq_1, q_storeK_eq_1, q_freeB_eq_1, q_freeT_eq_1, q_freeT_eq_2, q_freeO_eq_1, q_V_noRef_eq_1, q_V_noRef_eq_2, q_K_noRef_eq_1, q_K_noRef_eq_5, q_List_map_cons, q_List_map_nil, q_List_take_zero, q_List_drop_succ_cons, q_List_drop_zero, q_List_nil_append, q_List_length_cons, q_List_length_nil, true_and, if_true, and_self, Bool.and_true, Bool.or_true, List.append_nil, Nat.reduceAdd, Nat.reduceBEq, Nat.zero_add, Int.toNat_natCast, Nat.le_refl, Int.natCast_nonneg, q_learn_eq_1, q_condK_eq_1, q_condB_eq_1, decide_true, r_vIaddr_lst, List.length_map, r_ofRow_take, encOrder_len, lookT_here, lookT_next, lookO_here, uf18r3, uf18r9, uf18b10, uf18r11, uf18b12, uf18b13, uf18b14, uf18b15, uf18b16, uf18r17, uf18b18]
    refine call_s (s20 l[i]) ?_
    simp only [c4, q_wpLs_eq_1, q_wpLs_eq_2, q_wpL_eq_1, q_exL_eq_1, q_exL_eq_11, q_look_eq_1, q_look_eq_2, q_insT_eq_1, q_awl_eq_1, q_awl_eq_2, q_awl_eq_5, q_awl_eq_6, q_awl_eq_10, q_AE_thenL_eq_1, q_AE_thenL_eq_3, q_AE_inBlockL_eq_1, q_AE_inBlockL_eq_3, q_putK_eq_1, q_vBin_eq_1, q_resV_eq_1, q_binV_eq_1, q_binInt_eq_3, q_cutInt_eq_1, q_cutInt_eq_7, q_mapT_eq_1, q_mapT_eq_2, q_mapO_eq_1, q_mapO_eq_2, q_endK_eq_2, q_endL_eq_1, q_endV_eq_1, q_resL_eq_1, q_resL_eq_2, q_resX_eq_1, q_one_eq_2, q_V_nrm_eq_1, q_V_nrm_eq_2, q_K_nrm_eq_1, q_K_nrm_eq_2, q_K_nrm_eq_3, q_O_nrm_eq_1, q_V_owns_eq_1, q_V_owns_eq_3, q_K_owns_eq_2, q_V_ownsL_eq_1, q_V_ownsL_eq_2, q_V_toNew_eq_1, q_V_toNew_eq_4, q_K_toNew_eq_1, q_V_toNewL_eq_1, q_V_toNewL_eq_2, q_C_norm_eq_1, q_C_norm_eq_4, q_C_norm_eq_5, q_C_norm_eq_6, q_C_normRows_eq_1, q_List_map_cons, q_List_map_nil, q_List_isEmpty_nil, true_and, if_true, and_self, List.append_nil, List.nodup_nil, Nat.reduceBEq, q_learn_eq_1, q_condK_eq_1, condB_bne, norm_lst, normRows_O, encOrder_norm, lookT_here, lookT_next, r_map_nrm, uf18r4, uf18b5, uf18b6, uf18r7, uf18b8]
    refine ⟨fun h => ?_, fun h => ?_⟩
    · rw [if_pos h] at hj
      exact fin hS (by rw [← hj]; rfl)
    · rw [if_neg (by simp [h])] at hj
      exact Next.intro (i + 1) rfl rfl ⟨by omega, hj⟩ (by omega)
  · have c1 : ¬ (i : Int) < l.length := by omega
    rw [List.drop_eq_nil_of_le (by omega), ordersO] at hj
    simp only [c1, q_wpLs_eq_1, q_wpLs_eq_2, q_wpL_eq_1, q_exL_eq_1, q_exL_eq_11, q_look_eq_1, q_look_eq_2, q_lookO_eq_1, q_insT_eq_1, q_awl_eq_2, q_awl_eq_5, q_awl_eq_6, q_awl_eq_9, q_awl_eq_10, q_AE_thenL_eq_1, q_AE_thenL_eq_2, q_AE_inBlockL_eq_2, q_putK_eq_1, q_vBin_eq_1, q_resV_eq_1, q_binV_eq_1, q_binInt_eq_3, q_cutInt_eq_8, q_mapT_eq_1, q_mapT_eq_2, q_mapO_eq_1, q_endK_eq_2, q_endL_eq_1, q_endV_eq_1, q_resL_eq_1, q_resL_eq_2, q_resX_eq_1, q_one_eq_2, q_V_nrm_eq_1, q_K_nrm_eq_1, q_V_owns_eq_1, q_V_owns_eq_3, q_K_owns_eq_2, q_V_ownsL_eq_1, q_V_ownsL_eq_2, q_V_toNew_eq_1, q_V_toNew_eq_4, q_K_toNew_eq_1, q_V_toNewL_eq_1, q_V_toNewL_eq_2, q_C_norm_eq_4, q_C_norm_eq_5, true_and, if_true, and_self, Int.reduceNeg, List.append_nil, List.nodup_nil, Nat.reduceBEq, q_learn_eq_1, q_condK_eq_1, q_condB_eq_2, decide_false, norm_lst, normRows_O, lookT_here, lookT_next, uf18r1, uf18b2, uf18b15, uf18b16, uf18r17, uf18b18]
    exact fin hS (by rw [← hj]; rfl)
end Go.Abs


namespace Go.Abs
structure OkO (o : Order) : Prop where
  chs : chs o.choices (-1) = true
  rls : rls o.rules (-1) = true
  tys : tys o.rules = 0
theorem checkO_ok {o : Order} (h : checkO o = 0) : OkO o := by
  unfold checkO at h
  split at h
  · simp at h
  · rename_i h1
    split at h
    · simp at h
    · rename_i h2
      exact ⟨by simpa using h1, by simpa using h2, h⟩
theorem OkO.ask {o : Order} (h : OkO o) {r : Rule} (hr : r ∈ o.rules) : 0 ≤ r.ask ∧ r.ask < 22 := by
  have := rls_range _ _ h.rls r hr; omega
theorem rls_set : ∀ (l : List Rule) (k : Nat) (tm : Term) (last : Int) (h : k < l.length), rls (l.set k ⟨l[k].ask, tm⟩) last = rls l last
  | a :: l, 0, tm, last, h => by simp [rls]
  | a :: l, k + 1, tm, last, h => by
    simp only [List.set_cons_succ, List.getElem_cons_succ, rls]
    rw [rls_set l k tm _ (by simpa using h)]
theorem tys_set : ∀ (l : List Rule) (k : Nat) (tm : Term) (h : k < l.length), tys l = 0 → (checkT tm).2 = 0 → (checkT tm).1 ≠ qtype l[k].ask → tys (l.set k ⟨l[k].ask, tm⟩) = 11
  | a :: l, 0, tm, h, h0, h1, h2 => by
    simp only [List.set_cons_zero, List.getElem_cons_zero, tys] at h2 ⊢
    rw [if_neg (by simp [h1]), if_pos h2]
  | a :: l, k + 1, tm, h, h0, h1, h2 => by
    simp only [List.set_cons_succ, List.getElem_cons_succ, tys] at h0 h2 ⊢
    split at h0
    · rename_i hc; exact absurd h0 hc
    · rename_i hc
      rw [if_neg hc]
      split at h0
      · simp at h0
      · rename_i hq
        rw [if_neg hq]
        exact tys_set l k tm (by simpa using h) h0 h1 h2
theorem rls_dup : ∀ (l : List Rule) (k : Nat) (last : Int), k < l.length → rls (l.take (k + 1) ++ l.drop k) last = false
  | a :: l, 0, last, h => by
    simp only [List.take_succ_cons, List.take_zero, List.drop_zero, List.cons_append, List.nil_append, rls]
    split
    · rfl
    · rw [if_pos (by omega)]
  | a :: l, k + 1, last, h => by
    simp only [List.take_succ_cons, List.drop_succ_cons, List.cons_append, rls]
    split
    · rfl
    · exact rls_dup l k _ (by simpa using h)
theorem chs_dup : ∀ (l : List Choice) (k : Nat) (last : Int), k < l.length → chs (l.take (k + 1) ++ l.drop k) last = false
  | a :: l, 0, last, h => by
    simp only [List.take_succ_cons, List.take_zero, List.drop_zero, List.cons_append, List.nil_append, chs]
    split
    · rfl
    · rw [if_pos (by omega)]
  | a :: l, k + 1, last, h => by
    simp only [List.take_succ_cons, List.drop_succ_cons, List.cons_append, chs]
    split
    · rfl
    · exact chs_dup l k _ (by simpa using h)
theorem chs_set : ∀ (l : List Choice) (k : Nat) (n : Int) (last : Int) (h : k < l.length), chs l last = true → chs (l.set k ⟨l[k].ask, n, l[k].whole⟩) last = decide (¬ (n < 0 ∨ n ≥ 5))
  | a :: l, 0, n, last, h, h0 => by
    simp only [List.set_cons_zero, List.getElem_cons_zero, chs] at h0 ⊢
    split at h0
    · simp at h0
    · rename_i hc
      have hc := not_or.1 hc
      by_cases hn : n < 0 ∨ n ≥ 5
      · rw [if_pos (.inr hn)]; simp; omega
      · rw [if_neg (by rw [not_or]; exact ⟨hc.1, hn⟩), h0]; simp; omega
  | a :: l, k + 1, n, last, h, h0 => by
    simp only [List.set_cons_succ, List.getElem_cons_succ, chs] at h0 ⊢
    split at h0
    · simp at h0
    · rename_i hc
      rw [if_neg hc]
      exact chs_set l k n _ (by simpa using h) h0
end Go.Abs


set_option maxRecDepth 100000
set_option maxHeartbeats 4000000
namespace Go.Abs
open Go.Proofs
end Go.Abs


set_option maxRecDepth 100000
set_option maxHeartbeats 4000000
namespace Go.Abs
open Go.Proofs
theorem of_orF {p : Prop} (h : p ∨ False) : p := h.elim id False.elim
def capI (q : Int) : C := .ro [.int .i64 q] 0
theorem s47 (r : Rule) (q : Int) : Spec Try.prog 47 [.agg (encRule r), .k (.c (capI q))] (fun x => x = .bool (decide (r.ask = q))) := by
  refine Spec.of_awlS hf47 okf47 (by simp) fun S hS => ?_
  simp only [capI, q_wpLs_eq_1, q_wpLs_eq_2, q_wpL_eq_1, q_exL_eq_1, q_exL_eq_5, q_exL_eq_8, q_exL_eq_11, q_exL_eq_21, q_look_eq_1, q_look_eq_2, q_insT_eq_1, q_insO_eq_1, q_awl_eq_2, q_awl_eq_5, q_awl_eq_10, q_AE_thenL_eq_1, q_initT_eq_1, q_initT_eq_2, q_putK_eq_1, q_vBin_eq_1, q_resV_eq_1, q_binV_eq_1, q_binInt_eq_3, q_cutInt_eq_6, q_vFaddr_eq_1, q_loadO_eq_1, q_isV_eq_1, q_vLoad_eq_1, q_vLoad_eq_4, q_ofRow_eq_1, q_pureRow_eq_1, q_pureRow_eq_2, q_isVarO_eq_1, q_boxK_eq_1, q_mapT_eq_1, q_mapT_eq_2, q_mapO_eq_1, q_mapO_eq_2, q_freeB_eq_1, q_freeT_eq_1, q_freeT_eq_2, q_freeO_eq_1, q_V_noRef_eq_1, q_V_noRef_eq_2, q_K_noRef_eq_1, q_endK_eq_2, q_endL_eq_1, q_endV_eq_1, q_resL_eq_1, q_resL_eq_2, q_resX_eq_1, q_one_eq_1, q_V_nrm_eq_1, q_V_nrm_eq_2, q_K_nrm_eq_1, q_K_nrm_eq_3, q_O_nrm_eq_1, q_V_owns_eq_1, q_K_owns_eq_2, q_V_toNew_eq_1, q_K_toNew_eq_1, q_C_norm_eq_2, q_C_norm_eq_4, q_C_norm_eq_5, q_C_normRow_eq_1, q_C_normRow_eq_2, q_Option_map_some, q_List_map_cons, q_List_map_nil, q_List_take_succ_cons, q_List_take_zero, q_List_drop_zero, q_List_length_cons, q_List_length_nil, true_and, if_true, if_false, Bool.false_eq_true, and_self, Bool.and_true, Bool.or_true, List.nodup_nil, Nat.reduceAdd, Nat.reduceLeDiff, Nat.reduceBEq, Nat.zero_add, Nat.add_zero, Nat.le_refl, encRule_norm, List.length_map, encRule_len, lookT_here, lookT_next, lookO_here, f_rule0, r_map_nrm, uf47, uf47r1, uf47b2, uf47r3, uf47b4]
  refine fin hS ?_
  by_cases h : r.ask = q <;> simp [h]
theorem s67 (l : List Rule) (q : Int) : Spec Try.prog 67 [lst 4 (l.map encRule), .k (.c (.fn 47 [capI q]))] (fun r => r = .int .i64 (rix l q 0)) := by
  refine Spec.of_len hf67 fun hlen => ?_
  have hl := len_lst (sz := 4) (rows := l.map encRule) List.mem_cons_self hlen
  rw [List.length_map] at hl
  clear hlen
  refine Spec.of_awlS hf67 okf67 (by simp) fun S hS => ?_
  simp only [q_wpLs_eq_1, q_wpLs_eq_2, q_wpL_eq_1, q_exL_eq_1, q_exL_eq_30, q_look_eq_1, q_look_eq_2, q_lookO_eq_1, q_insT_eq_1, q_awl_eq_2, q_awl_eq_5, q_awl_eq_7, q_AE_thenL_eq_1, q_initT_eq_1, q_initT_eq_2, q_putK_eq_1, true_and, Nat.reduceAdd, Nat.reduceBEq, Nat.zero_add, r_vLen_lst, List.length_map, lookT_here, lookT_next, uf67, uf67b18, uf67r19, uf67b20, uf67b21, uf67r22, uf67b23]
  rw [uf67l17]
  refine awl_loop (fun i : Nat => [(0, lst 4 (l.map encRule)), (1, .k (.c (.fn 47 [capI q]))), (7, .int .i64 l.length), (8, .int .i64 i)]) (fun _ => [])
    (fun i => i ≤ l.length ∧ rix (l.drop i) q i = rix l q 0) (fun i => l.length - i) 0 rfl rfl ⟨Nat.zero_le _, rfl⟩ ?_
  rintro i ⟨hi, hj⟩
  by_cases hlt : i < l.length
  · have c1 : (i : Int) < l.length := by omega
    have c4 : IntKind.i64.wrap ((i : Int) + 1) = (i : Int) + 1 := wrap_in (by omega) (by omega)
    rw [rix_drop hlt] at hj
    simp only [c1, c4, map_at hlt, q_wpLs_eq_1, q_wpLs_eq_2, q_wpL_eq_1, q_exL_eq_1, q_exL_eq_8, q_exL_eq_11, q_exL_eq_23, q_exL_eq_29, q_look_eq_1, q_lookO_eq_1, q_insT_eq_1, q_awl_eq_1, q_awl_eq_2, q_awl_eq_5, q_awl_eq_6, q_awl_eq_7, q_AE_thenL_eq_1, q_putK_eq_1, q_vBin_eq_1, q_resV_eq_1, q_binV_eq_1, q_binInt_eq_3, q_cutInt_eq_8, q_partV_eq_1, q_vLoad_eq_2, q_List_map_cons, q_List_map_nil, q_List_drop_zero, true_and, if_true, and_self, Nat.reduceBEq, Nat.zero_add, Int.toNat_natCast, Nat.le_refl, Int.natCast_nonneg, q_learn_eq_1, q_condK_eq_1, q_condB_eq_1, decide_true, r_vIaddr_lst, List.length_map, lookT_here, lookT_next, uf67r3, uf67r7, uf67b8, uf67r9, uf67b10, uf67b11, uf67b12, uf67b13, uf67b14, uf67r15, uf67b16]
    refine call_c (s47 l[i] q) ?_ (ha := by simp [lendL, V.norm, capI])
    by_cases h : l[i].ask = q
    · rw [if_pos h] at hj
      simp only [h, q_wpLs_eq_1, q_wpLs_eq_2, q_wpL_eq_1, q_exL_eq_1, q_look_eq_1, q_lookO_eq_1, q_insT_eq_1, q_awl_eq_2, q_awl_eq_5, q_awl_eq_6, q_awl_eq_10, q_AE_thenL_eq_1, q_AE_thenL_eq_3, q_AE_inBlockL_eq_3, q_mapT_eq_1, q_mapT_eq_2, q_mapO_eq_1, q_endK_eq_2, q_endL_eq_1, q_endV_eq_1, q_resL_eq_1, q_resL_eq_2, q_resX_eq_1, q_one_eq_1, q_V_nrm_eq_1, q_V_nrm_eq_2, q_K_nrm_eq_1, q_K_nrm_eq_2, q_V_owns_eq_1, q_K_owns_eq_2, q_V_toNew_eq_1, q_K_toNew_eq_1, q_C_norm_eq_3, q_C_norm_eq_4, q_C_norm_eq_5, q_C_normRow_eq_1, q_C_normRow_eq_2, true_and, and_self, List.nodup_nil, Nat.reduceBEq, q_learn_eq_1, q_condK_eq_1, q_condB_eq_1, decide_true, norm_lst, normRows_R, encRule_norm, lookT_here, lookT_next, uf67r4, uf67b5, uf67b6]
      exact fin hS (by rw [← hj])
    · rw [if_neg h] at hj
      simp only [h, c4, q_wpLs_eq_1, q_wpLs_eq_2, q_wpL_eq_1, q_exL_eq_1, q_exL_eq_11, q_look_eq_1, q_look_eq_2, q_insT_eq_1, q_awl_eq_1, q_awl_eq_2, q_awl_eq_6, q_AE_thenL_eq_1, q_AE_inBlockL_eq_1, q_putK_eq_1, q_vBin_eq_1, q_resV_eq_1, q_binV_eq_1, q_binInt_eq_3, q_cutInt_eq_1, true_and, if_true, Nat.reduceBEq, q_learn_eq_1, q_condK_eq_1, q_condB_eq_2, decide_false, lookT_here, lookT_next, uf67b6]
      exact Next.intro (i + 1) rfl rfl ⟨by omega, hj⟩ (by omega)
  · have c1 : ¬ (i : Int) < l.length := by omega
    simp only [c1, q_wpLs_eq_1, q_wpLs_eq_2, q_wpL_eq_1, q_exL_eq_1, q_exL_eq_11, q_look_eq_1, q_look_eq_2, q_lookO_eq_1, q_insT_eq_1, q_awl_eq_2, q_awl_eq_5, q_awl_eq_6, q_awl_eq_9, q_awl_eq_10, q_AE_thenL_eq_1, q_AE_thenL_eq_2, q_AE_inBlockL_eq_2, q_putK_eq_1, q_vBin_eq_1, q_resV_eq_1, q_binV_eq_1, q_binInt_eq_3, q_cutInt_eq_8, q_mapT_eq_1, q_mapT_eq_2, q_mapO_eq_1, q_endK_eq_2, q_endL_eq_1, q_endV_eq_1, q_resL_eq_1, q_resL_eq_2, q_resX_eq_1, q_one_eq_1, q_V_nrm_eq_1, q_K_nrm_eq_1, q_V_owns_eq_1, q_K_owns_eq_2, q_V_toNew_eq_1, q_K_toNew_eq_1, q_C_norm_eq_3, q_C_norm_eq_4, q_C_norm_eq_5, q_C_normRow_eq_1, q_C_normRow_eq_2, true_and, if_true, and_self, Int.reduceNeg, List.nodup_nil, Nat.reduceBEq, q_learn_eq_1, q_condK_eq_1, q_condB_eq_2, decide_false, norm_lst, normRows_R, lookT_here, lookT_next, uf67r1, uf67b2, uf67b13, uf67b14, uf67r15, uf67b16]
    rw [List.drop_eq_nil_of_le (by omega), rix] at hj
    exact fin hS (by rw [← hj])
theorem s46 (l : List Rule) (q : Int) : Spec Try.prog 46 [lst 4 (l.map encRule), .k (.c (.fn 47 [capI q]))] (fun r => r = .bool (hasR l q)) := by
  refine Spec.of_awlS hf46 okf46 (by simp) fun S hS => ?_
  simp only [q_wpLs_eq_1, q_wpLs_eq_2, q_wpL_eq_1, q_exL_eq_1, q_exL_eq_28, q_look_eq_1, q_look_eq_2, q_insT_eq_1, q_awl_eq_2, q_awl_eq_5, q_AE_thenL_eq_1, q_initT_eq_1, q_initT_eq_2, q_List_map_cons, q_List_map_nil, Nat.reduceAdd, Nat.reduceBEq, Nat.zero_add, lookT_here, lookT_next, uf46, uf46r1, uf46b2, uf46r3, uf46b4]
  refine call_s (s67 l q) ?_ (ha := by simp [lendL, V.norm, capI, lst])
  simp only [q_wpLs_eq_1, q_wpLs_eq_2, q_wpL_eq_1, q_exL_eq_1, q_exL_eq_11, q_look_eq_1, q_look_eq_2, q_lookO_eq_1, q_insT_eq_1, q_awl_eq_10, q_putK_eq_1, q_vBin_eq_1, q_resV_eq_1, q_binV_eq_1, q_binInt_eq_3, q_cutInt_eq_11, q_mapT_eq_1, q_mapT_eq_2, q_mapO_eq_1, q_endK_eq_2, q_endL_eq_1, q_endV_eq_1, q_resL_eq_1, q_resL_eq_2, q_resX_eq_1, q_one_eq_1, q_V_nrm_eq_1, q_K_nrm_eq_1, q_V_owns_eq_1, q_K_owns_eq_2, q_V_toNew_eq_1, q_K_toNew_eq_1, q_C_norm_eq_3, q_C_norm_eq_4, q_C_norm_eq_5, q_C_normRow_eq_1, q_C_normRow_eq_2, true_and, if_true, and_self, List.nodup_nil, norm_lst, normRows_R, lookT_here]
  refine fin hS ?_
  have := (rix_neg l q 0 (by omega)).2
  congr 3
  by_cases h : 0 ≤ rix l q 0
  · simp [h, this.1 h]
  · have h2 : hasR l q = false := by
      cases hh : hasR l q
      · rfl
      · exact absurd (this.2 hh) h
    simp [h2]; omega
theorem s53 (v : Int) : Spec Try.prog 53 [.int .i64 v] (fun x => x = .bool (decide (v ≥ 15))) := by
  refine Spec.of_awlS hf53 okf53 (by simp) fun S hS => ?_
  simp only [q_wpLs_eq_1, q_wpLs_eq_2, q_wpL_eq_1, q_exL_eq_1, q_exL_eq_11, q_look_eq_1, q_look_eq_2, q_lookO_eq_1, q_insT_eq_1, q_awl_eq_2, q_awl_eq_5, q_awl_eq_10, q_AE_thenL_eq_1, q_initT_eq_1, q_initT_eq_2, q_putK_eq_1, q_vBin_eq_1, q_resV_eq_1, q_binV_eq_1, q_binInt_eq_3, q_cutInt_eq_11, q_mapT_eq_1, q_mapT_eq_2, q_mapO_eq_1, q_endK_eq_2, q_endL_eq_1, q_endV_eq_1, q_resL_eq_1, q_resL_eq_2, q_resX_eq_1, q_one_eq_1, q_V_nrm_eq_1, q_K_nrm_eq_1, q_V_owns_eq_1, q_K_owns_eq_2, q_V_toNew_eq_1, q_K_toNew_eq_1, q_C_norm_eq_4, q_C_norm_eq_5, true_and, if_true, and_self, List.nodup_nil, Nat.reduceBEq, Nat.zero_add, lookT_here, lookT_next, uf53, uf53r1, uf53b2, uf53r3, uf53b4]
  exact fin hS rfl
theorem s70 (l : List Int) : Spec Try.prog 70 [lst 1 (ints l), .k (.c (.fn 53 []))] (fun r => r = .int .i64 (ixP (fun v => decide (v ≥ 15)) l 0)) := by
  refine Spec.of_len hf70 fun hlen => ?_
  have hl := len_lst (sz := 1) (rows := ints l) List.mem_cons_self hlen
  rw [ints_len] at hl
  clear hlen
  refine Spec.of_awlS hf70 okf70 (by simp) fun S hS => ?_
  simp only [q_wpLs_eq_1, q_wpLs_eq_2, q_wpL_eq_1, q_exL_eq_1, q_exL_eq_30, q_look_eq_1, q_look_eq_2, q_lookO_eq_1, q_insT_eq_1, q_awl_eq_2, q_awl_eq_5, q_awl_eq_7, q_AE_thenL_eq_1, q_initT_eq_1, q_initT_eq_2, q_putK_eq_1, true_and, Nat.reduceAdd, Nat.reduceBEq, Nat.zero_add, r_vLen_lst, ints_len, lookT_here, lookT_next, uf70, uf70b18, uf70r19, uf70b20, uf70b21, uf70r22, uf70b23]
  rw [uf70l17]
  refine awl_loop (fun i : Nat => [(0, lst 1 (ints l)), (1, .k (.c (.fn 53 []))), (7, .int .i64 l.length), (8, .int .i64 i)]) (fun _ => [])
    (fun i => i ≤ l.length ∧ ixP (fun v => decide (v ≥ 15)) (l.drop i) i = ixP (fun v => decide (v ≥ 15)) l 0) (fun i => l.length - i) 0 rfl rfl ⟨Nat.zero_le _, rfl⟩ ?_
  rintro i ⟨hi, hj⟩
  by_cases hlt : i < l.length
  · have c1 : (i : Int) < l.length := by omega
    have c4 : IntKind.i64.wrap ((i : Int) + 1) = (i : Int) + 1 := wrap_in (by omega) (by omega)
    rw [ixP_drop hlt] at hj
    simp only [c1, c4, ints_at hlt, q_wpLs_eq_1, q_wpLs_eq_2, q_wpL_eq_1, q_exL_eq_1, q_exL_eq_8, q_exL_eq_11, q_exL_eq_23, q_exL_eq_29, q_look_eq_1, q_lookO_eq_1, q_insT_eq_1, q_awl_eq_1, q_awl_eq_2, q_awl_eq_5, q_awl_eq_6, q_awl_eq_7, q_AE_thenL_eq_1, q_putK_eq_1, q_vBin_eq_1, q_resV_eq_1, q_binV_eq_1, q_binInt_eq_3, q_cutInt_eq_8, q_partV_eq_2, q_vLoad_eq_2, q_List_map_cons, q_List_map_nil, q_List_getD_cons_zero, true_and, if_true, and_self, Nat.reduceBEq, Nat.zero_add, Int.toNat_natCast, Nat.le_refl, Int.natCast_nonneg, q_learn_eq_1, q_condK_eq_1, q_condB_eq_1, decide_true, r_vIaddr_lst, ints_len, lookT_here, lookT_next, uf70r3, uf70r7, uf70b8, uf70r9, uf70b10, uf70b11, uf70b12, uf70b13, uf70b14, uf70r15, uf70b16]
    refine call_c (s53 l[i]) ?_
    by_cases h : l[i] ≥ 15
    · rw [if_pos (by simpa using h)] at hj
      simp only [h, q_wpLs_eq_1, q_wpLs_eq_2, q_wpL_eq_1, q_exL_eq_1, q_look_eq_1, q_lookO_eq_1, q_insT_eq_1, q_awl_eq_2, q_awl_eq_5, q_awl_eq_6, q_awl_eq_10, q_AE_thenL_eq_1, q_AE_thenL_eq_3, q_AE_inBlockL_eq_3, q_mapT_eq_1, q_mapT_eq_2, q_mapO_eq_1, q_endK_eq_2, q_endL_eq_1, q_endV_eq_1, q_resL_eq_1, q_resL_eq_2, q_resX_eq_1, q_one_eq_1, q_V_nrm_eq_1, q_K_nrm_eq_1, q_K_nrm_eq_2, q_V_owns_eq_1, q_K_owns_eq_2, q_V_toNew_eq_1, q_K_toNew_eq_1, q_C_norm_eq_3, q_C_norm_eq_4, q_C_norm_eq_5, q_C_normRow_eq_1, true_and, and_self, List.nodup_nil, Nat.reduceBEq, q_learn_eq_1, q_condK_eq_1, q_condB_eq_1, decide_true, norm_lst, normRows_ints, lookT_here, lookT_next, uf70r4, uf70b5, uf70b6]
      exact fin hS (by rw [← hj])
    · rw [if_neg (by simpa using h)] at hj
      simp only [h, c4, q_wpLs_eq_1, q_wpLs_eq_2, q_wpL_eq_1, q_exL_eq_1, q_exL_eq_11, q_look_eq_1, q_look_eq_2, q_insT_eq_1, q_awl_eq_1, q_awl_eq_2, q_awl_eq_6, q_AE_thenL_eq_1, q_AE_inBlockL_eq_1, q_putK_eq_1, q_vBin_eq_1, q_resV_eq_1, q_binV_eq_1, q_binInt_eq_3, q_cutInt_eq_1, true_and, if_true, Nat.reduceBEq, q_learn_eq_1, q_condK_eq_1, q_condB_eq_2, decide_false, lookT_here, lookT_next, uf70b6]
      exact Next.intro (i + 1) rfl rfl ⟨by omega, hj⟩ (by omega)
  · have c1 : ¬ (i : Int) < l.length := by omega
    simp only [c1, q_wpLs_eq_1, q_wpLs_eq_2, q_wpL_eq_1, q_exL_eq_1, q_exL_eq_11, q_look_eq_1, q_look_eq_2, q_lookO_eq_1, q_insT_eq_1, q_awl_eq_2, q_awl_eq_5, q_awl_eq_6, q_awl_eq_9, q_awl_eq_10, q_AE_thenL_eq_1, q_AE_thenL_eq_2, q_AE_inBlockL_eq_2, q_putK_eq_1, q_vBin_eq_1, q_resV_eq_1, q_binV_eq_1, q_binInt_eq_3, q_cutInt_eq_8, q_mapT_eq_1, q_mapT_eq_2, q_mapO_eq_1, q_endK_eq_2, q_endL_eq_1, q_endV_eq_1, q_resL_eq_1, q_resL_eq_2, q_resX_eq_1, q_one_eq_1, q_V_nrm_eq_1, q_K_nrm_eq_1, q_V_owns_eq_1, q_K_owns_eq_2, q_V_toNew_eq_1, q_K_toNew_eq_1, q_C_norm_eq_3, q_C_norm_eq_4, q_C_norm_eq_5, q_C_normRow_eq_1, true_and, if_true, and_self, Int.reduceNeg, List.nodup_nil, Nat.reduceBEq, q_learn_eq_1, q_condK_eq_1, q_condB_eq_2, decide_false, norm_lst, normRows_ints, lookT_here, lookT_next, uf70r1, uf70b2, uf70b13, uf70b14, uf70r15, uf70b16]
    rw [List.drop_eq_nil_of_le (by omega), ixP] at hj
    exact fin hS (by rw [← hj])
theorem s52 (l : List Int) : Spec Try.prog 52 [lst 1 (ints l), .k (.c (.fn 53 []))] (fun r => r = .bool (l.any fun v => decide (v ≥ 15))) := by
  refine Spec.of_awlS hf52 okf52 (by simp) fun S hS => ?_
  simp only [q_wpLs_eq_1, q_wpLs_eq_2, q_wpL_eq_1, q_exL_eq_1, q_exL_eq_28, q_look_eq_1, q_look_eq_2, q_insT_eq_1, q_awl_eq_2, q_awl_eq_5, q_AE_thenL_eq_1, q_initT_eq_1, q_initT_eq_2, q_List_map_cons, q_List_map_nil, Nat.reduceAdd, Nat.reduceBEq, Nat.zero_add, lookT_here, lookT_next, uf52, uf52r1, uf52b2, uf52r3, uf52b4]
  refine call_s (s70 l) ?_
  simp only [q_wpLs_eq_1, q_wpLs_eq_2, q_wpL_eq_1, q_exL_eq_1, q_exL_eq_11, q_look_eq_1, q_look_eq_2, q_lookO_eq_1, q_insT_eq_1, q_awl_eq_10, q_putK_eq_1, q_vBin_eq_1, q_resV_eq_1, q_binV_eq_1, q_binInt_eq_3, q_cutInt_eq_11, q_mapT_eq_1, q_mapT_eq_2, q_mapO_eq_1, q_endK_eq_2, q_endL_eq_1, q_endV_eq_1, q_resL_eq_1, q_resL_eq_2, q_resX_eq_1, q_one_eq_1, q_V_nrm_eq_1, q_K_nrm_eq_1, q_V_owns_eq_1, q_K_owns_eq_2, q_V_toNew_eq_1, q_K_toNew_eq_1, q_C_norm_eq_3, q_C_norm_eq_4, q_C_norm_eq_5, q_C_normRow_eq_1, true_and, if_true, and_self, List.nodup_nil, norm_lst, normRows_ints, lookT_here]
  refine fin hS ?_
  have := ixP_any (fun v => decide (v ≥ 15)) l 0 (by omega)
  generalize ixP (fun v => decide (v ≥ 15)) l 0 = n at *
  congr 3
  by_cases h : 0 ≤ n
  · have h2 := this.1 h
    rw [h2]; simp [h]
  · have h2 : (l.any fun v => decide (v ≥ 15)) = false := by
      cases hh : (l.any fun v => decide (v ≥ 15))
      · rfl
      · exact absurd (this.2 hh) h
    rw [h2]; simp; omega
theorem upto_succ (i : Nat) : upto (i + 1) = upto i ++ [(i : Int)] := by simp [upto, List.range_succ]
theorem upto_filter (p : Int → Bool) (i : Nat) : (upto (i + 1)).filter p = if p i = true then (upto i).filter p ++ [(i : Int)] else (upto i).filter p := by
  rw [upto_succ, List.filter_append]
  by_cases h : p i = true <;> simp [h]
theorem filter_le (p : Int → Bool) (i : Nat) : ((upto i).filter p).length ≤ i := Nat.le_trans (List.length_filter_le _ _) (by simp [upto])
def nlI (l : List Int) : Option Bool := if l.isEmpty = true then some true else some false
theorem nlI_snoc (l : List Int) (x : Int) : nlI (l ++ [x]) = some false := by simp [nlI]
theorem nlI_app (l : List Int) (r : List C) (rs : List (List C)) : nlApp (nlI l) (r :: rs) = some false := rfl
theorem s23 (o : Order) : Spec Try.prog 23 [.agg (encOrder o)] (fun r => r = .k (.newl 3 1 none (ints (gapsO o)))) := by
  refine Spec.of_awlS hf23 okf23 (by simp) fun S hS => ?_
  simp only [q_wpLs_eq_1, q_wpLs_eq_2, q_wpL_eq_1, q_exL_eq_1, q_exL_eq_2, q_exL_eq_5, q_look_eq_1, q_look_eq_2, q_insT_eq_1, q_insO_eq_1, q_awl_eq_2, q_awl_eq_5, q_awl_eq_7, q_AE_thenL_eq_1, q_initT_eq_1, q_initT_eq_2, q_boxK_eq_1, q_freeB_eq_1, q_freeT_eq_1, q_freeT_eq_2, q_freeO_eq_1, q_freeO_eq_2, q_V_noRef_eq_1, q_V_noRef_eq_2, q_K_noRef_eq_2, q_K_noRef_eq_3, q_O_noRef_eq_1, q_O_noRef_eq_2, true_and, and_self, bne_iff_ne, ne_eq, Bool.and_eq_true, Bool.and_true, Bool.or_true, Bool.false_or, Nat.reduceEqDiff, Nat.reduceBEq, Nat.zero_add, not_false_eq_true, lookT_here, r_all_noRef, uf23, uf23b17, uf23r18, uf23b19, uf23b20, uf23r21, uf23b22, uf23r23, uf23b24]
  rw [uf23l16]
  refine awl_loop (fun i : Nat => [(1, .k (.ptr 1 0)), (3, .k (.own 3)), (5, .int .i64 i)])
    (fun i => [(1, .var 25 ((encOrder o).map .c)), (3, .arr 3 1 (nlI ((upto i).filter fun q => !(hasR o.rules q))) (ints ((upto i).filter fun q => !(hasR o.rules q))))]) (fun i => i ≤ 22) (fun i => 22 - i) 0 rfl rfl (Nat.zero_le _) ?_
  intro i hi
  by_cases hlt : i < 22
  · have c1 : (i : Int) < 22 := by omega
    have c4 : IntKind.i64.wrap ((i : Int) + 1) = (i : Int) + 1 := wrap_in (by omega) (by omega)
    simp only [c1, c4, q_wpLs_eq_1, q_wpLs_eq_2, q_wpL_eq_1, q_exL_eq_1, q_exL_eq_4, q_exL_eq_8, q_exL_eq_9, q_exL_eq_11, q_exL_eq_17, q_exL_eq_21, q_exL_eq_28, q_look_eq_1, q_look_eq_2, q_insT_eq_1, q_insO_eq_1, q_awl_eq_1, q_awl_eq_2, q_awl_eq_5, q_awl_eq_6, q_awl_eq_7, q_AE_thenL_eq_1, q_putK_eq_1, q_vBin_eq_1, q_resV_eq_1, q_binV_eq_1, q_binInt_eq_3, q_cutInt_eq_8, q_vFaddr_eq_1, q_loadO_eq_1, q_isV_eq_1, q_vLoad_eq_1, q_V_cells_eq_1, q_splice_eq_1, q_isVarO_eq_1, q_stVarK_eq_1, q_storeK_eq_1, q_freeB_eq_1, q_freeT_eq_1, q_freeT_eq_2, q_freeO_eq_1, q_freeO_eq_2, q_V_noRef_eq_1, q_K_noRef_eq_1, q_K_noRef_eq_2, q_K_noRef_eq_3, q_O_noRef_eq_1, q_O_noRef_eq_2, q_List_map_cons, q_List_map_nil, q_List_take_zero, q_List_drop_succ_cons, q_List_drop_zero, q_List_nil_append, q_List_length_cons, q_List_length_nil, true_and, if_true, and_self, bne_iff_ne, ne_eq, Bool.and_eq_true, Bool.and_true, Bool.true_and, Bool.or_true, Bool.false_or, List.append_nil, Nat.reduceAdd, Nat.reduceEqDiff, Nat.reduceBEq, Nat.zero_add, Nat.le_refl, q_learn_eq_1, not_false_eq_true, q_condK_eq_1, q_condB_eq_1, decide_true, List.length_map, encOrder_len, lookT_here, lookT_next, lookO_here, lookO_next, f_or3, r_all_noRef, z_capP, z_caps_nil, z_caps_ptr, z_fnV, z_fnP2, z_pureCaps_tok, uf23r3, uf23r6, uf23b7, uf23r8, uf23b9, uf23b10, uf23b11, uf23b12, uf23b13, uf23r14, uf23b15]
    refine call_f 4 (by simp [look, lookT]) (by simp [V.hard, V.toks, Abs.K.toks, Cap.toks]) (by simp [lookO, plainO, Abs.K.toks]) ?_
    simp only [q_look_eq_1, q_pureRow_eq_1, q_pureRow_eq_2, q_mapT_eq_1, q_mapT_eq_2, q_mapO_eq_1, q_mapO_eq_2, q_delO_eq_1, q_delO_eq_2, q_Option_map_some, q_List_map_cons, q_List_map_nil, if_true, if_false, or_false, Nat.reduceEqDiff, Nat.reduceBEq, lookT_here, lookT_next, lookO_here, q_roK_1, q_fnkF_1, q_capR_1, z_V_k, z_K_c, z_K_own, z_K_ptr, z_K_fnk, z_Cap_tok, z_O_var, z_O_arr, z_frzT, z_frzO, z_pureCaps_nil, z_pureCaps_ro, r_map_frz]
    refine of_orF (call_s (s46 o.rules i) ?_ (ha := by simp [lendL, V.norm, capI, lst]))
    have hu := upto_filter (fun q => !(hasR o.rules q)) i
    have hle := filter_le (fun q => !(hasR o.rules q)) i
    cases h : hasR o.rules i
    · rw [if_pos (by rw [h]; rfl)] at hu
      simp only [h, c4, nlI_app, q_wpLs_eq_1, q_wpLs_eq_2, q_wpL_eq_1, q_exL_eq_1, q_exL_eq_7, q_exL_eq_8, q_exL_eq_11, q_exL_eq_15, q_exL_eq_33, q_look_eq_1, q_look_eq_2, q_insT_eq_1, q_insO_eq_1, q_awl_eq_2, q_awl_eq_6, q_AE_thenL_eq_1, q_AE_inBlockL_eq_1, q_putK_eq_1, q_vBin_eq_1, q_resV_eq_1, q_binV_eq_1, q_binInt_eq_3, q_cutInt_eq_1, q_vUn_eq_1, q_unV_eq_2, q_mapC_eq_1, q_vLoad_eq_4, q_ofRow_eq_1, q_pureRow_eq_1, q_pureRow_eq_2, q_nlApp_eq_2, q_vRow_eq_1, q_vLits_eq_1, q_vLits_eq_2, q_bsK_eq_1, q_srcO_eq_1, q_srcV_eq_2, q_appK_eq_1, q_appendK_eq_1, q_mapT_eq_1, q_mapT_eq_2, q_mapO_eq_1, q_mapO_eq_2, q_delO_eq_1, q_delO_eq_2, q_freeB_eq_1, q_freeT_eq_1, q_freeT_eq_2, q_freeO_eq_1, q_freeO_eq_2, q_V_noRef_eq_1, q_K_noRef_eq_1, q_K_noRef_eq_2, q_K_noRef_eq_3, q_O_noRef_eq_1, q_O_noRef_eq_2, q_V_scrub_eq_1, q_K_scrub_eq_1, q_K_scrub_eq_2, q_K_scrub_eq_5, q_O_scrub_eq_1, q_O_scrub_eq_2, q_Bool_not_false, q_Option_map_some, q_List_map_cons, q_List_map_nil, q_List_take_succ_cons, q_List_take_zero, q_List_drop_zero, q_List_foldl_cons, q_List_foldl_nil, q_List_replicate_succ, q_List_replicate_zero, q_List_set_cons_zero, q_List_length_cons, q_List_length_nil, true_and, if_true, if_false, Bool.false_eq_true, forall_eq, or_false, and_self, bne_iff_ne, ne_eq, Bool.and_eq_true, Bool.and_true, Bool.true_and, Bool.or_true, Bool.false_or, List.mem_cons, Nat.reduceEqDiff, Nat.reduceLeDiff, Nat.reduceLT, Nat.reduceBEq, Nat.zero_add, Nat.le_refl, q_learn_eq_1, not_false_eq_true, q_condK_eq_1, q_condB_eq_1, ints_len, lookT_here, lookT_next, lookO_here, lookO_next, List.not_mem_nil, r_all_noRef, r_map_scrub, uf23r4, uf23b5]
      refine ⟨by omega, by omega, Next.intro (i + 1) rfl ?_ (by omega) (by omega)⟩
      rw [hu, ints_snoc, nlI_snoc]; rfl
    · rw [if_neg (by rw [h]; simp)] at hu
      simp only [h, c4, q_wpLs_eq_1, q_wpLs_eq_2, q_wpL_eq_1, q_exL_eq_1, q_exL_eq_11, q_exL_eq_15, q_look_eq_1, q_look_eq_2, q_insT_eq_1, q_awl_eq_1, q_awl_eq_2, q_awl_eq_6, q_AE_thenL_eq_1, q_AE_inBlockL_eq_1, q_putK_eq_1, q_vBin_eq_1, q_resV_eq_1, q_binV_eq_1, q_binInt_eq_3, q_cutInt_eq_1, q_vUn_eq_1, q_unV_eq_2, q_mapC_eq_1, q_Bool_not_true, true_and, if_true, Nat.reduceBEq, q_learn_eq_1, q_condK_eq_1, q_condB_eq_2, lookT_here, lookT_next, uf23r4, uf23b5]
      refine Next.intro (i + 1) rfl ?_ (by omega) (by omega)
      rw [hu]; rfl
  · have c1 : ¬ (i : Int) < 22 := by omega
    obtain rfl : i = 22 := by omega
    simp only [c1, q_wpLs_eq_1, q_wpLs_eq_2, q_wpL_eq_1, q_exL_eq_1, q_exL_eq_11, q_look_eq_1, q_look_eq_2, q_insT_eq_1, q_awl_eq_2, q_awl_eq_5, q_awl_eq_6, q_awl_eq_9, q_awl_eq_10, q_AE_thenL_eq_1, q_AE_thenL_eq_2, q_AE_inBlockL_eq_2, q_putK_eq_1, q_vBin_eq_1, q_resV_eq_1, q_binV_eq_1, q_binInt_eq_3, q_cutInt_eq_8, q_isArrO_eq_1, q_mapT_eq_1, q_mapT_eq_2, q_mapO_eq_1, q_mapO_eq_2, q_endK_eq_2, q_endL_eq_1, q_endV_eq_1, q_resL_eq_1, q_resL_eq_2, q_resX_eq_1, q_one_eq_1, q_V_nrm_eq_1, q_K_nrm_eq_1, q_K_nrm_eq_3, q_O_nrm_eq_1, q_O_nrm_eq_2, q_V_owns_eq_1, q_K_owns_eq_1, q_V_toNew_eq_1, q_K_toNew_eq_2, q_C_norm_eq_4, q_C_norm_eq_5, true_and, if_true, and_self, List.nodup_nil, List.nodup_cons, Nat.reduceBEq, q_learn_eq_1, not_false_eq_true, q_condK_eq_1, q_condB_eq_2, decide_false, normRows_ints, encOrder_norm, lookT_here, lookT_next, Int.reduceLT, Int.cast_ofNat_Int, lookO_here, lookO_next, List.not_mem_nil, r_map_nrm, uf23r1, uf23b2, uf23b12, uf23b13, uf23r14, uf23b15]
    exact hS
end Go.Abs


set_option maxRecDepth 100000
set_option maxHeartbeats 4000000
namespace Go.Abs
open Go.Proofs
theorem s35' (t : Term) : Spec Try.prog 35 [.agg (encT t)] (fun r => r = .k (.newl 3 1 none (ints (varsT t)))) := by
  have := s35 t
  rw [vars_eq] at this; exact this
theorem vars_le (t : Term) : (varsT t).length ≤ 20 := by
  unfold varsT
  split
  · simp
  · exact filter_le _ 20
theorem nlI_append (l m : List Int) : nlApp (nlI l) (ints m) = nlI (l ++ m) := by
  cases m with
  | nil => simp [ints, nlApp]
  | cons a m => simp [ints, nlApp, nlI]
theorem take_flat {l : List Rule} {i : Nat} (h : i < l.length) (g : Rule → List Int) : (l.take (i + 1)).flatMap g = (l.take i).flatMap g ++ g l[i] := by
  rw [List.take_succ_eq_append_getElem h, List.flatMap_append]; simp
theorem flat_le (l : List Rule) : ∀ i, ((l.take i).flatMap fun r => varsT r.term).length ≤ 20 * i := by
  intro i
  induction i with
  | zero => simp
  | succ i ih =>
    by_cases h : i < l.length
    · rw [take_flat h]
      have := vars_le l[i].term
      simp only [List.length_append]; omega
    · rw [List.take_of_length_le (by omega)]
      rw [List.take_of_length_le (by omega)] at ih; omega
theorem s25 (o : Order) (h60 : o.rules.length ≤ 60) : Spec Try.prog 25 [.agg (encOrder o)] (fun r => r = .k (.newl 3 1 none (ints (usesO o)))) := by
  refine Spec.of_awlS hf25 okf25 (by simp) fun S hS => ?_
  rw [← uses_eq] at hS
  simp only [q_wpLs_eq_1, q_wpLs_eq_2, q_wpL_eq_1, q_exL_eq_1, q_exL_eq_2, q_exL_eq_5, q_exL_eq_8, q_exL_eq_21, q_exL_eq_30, q_look_eq_1, q_look_eq_2, q_insT_eq_1, q_insO_eq_1, q_awl_eq_2, q_awl_eq_5, q_awl_eq_7, q_AE_thenL_eq_1, q_initT_eq_1, q_initT_eq_2, q_putK_eq_1, q_vFaddr_eq_1, q_loadO_eq_1, q_isV_eq_1, q_vLoad_eq_1, q_isVarO_eq_1, q_boxK_eq_1, q_freeB_eq_1, q_freeT_eq_1, q_freeT_eq_2, q_freeO_eq_1, q_freeO_eq_2, q_V_noRef_eq_1, q_V_noRef_eq_2, q_K_noRef_eq_2, q_K_noRef_eq_3, q_O_noRef_eq_1, q_O_noRef_eq_2, true_and, and_self, bne_iff_ne, ne_eq, Bool.and_eq_true, Bool.and_true, Bool.or_true, Bool.false_or, Nat.reduceAdd, Nat.reduceEqDiff, Nat.reduceBEq, Nat.zero_add, Nat.le_refl, not_false_eq_true, r_vLen_lst, List.length_map, encOrder_len, lookT_here, lookT_next, lookO_here, lookO_next, f_or3, r_all_noRef, uf25, uf25b16, uf25r17, uf25b18, uf25b19, uf25r20, uf25b21, uf25r22, uf25b23]
  rw [uf25l15]
  refine awl_loop (fun i : Nat => [(3, .k (.own 3)), (7, lst 4 (o.rules.map encRule)), (8, .int .i64 o.rules.length), (9, .int .i64 i)])
    (fun i => [(3, .arr 3 1 (nlI ((o.rules.take i).flatMap fun r => varsT r.term)) (ints ((o.rules.take i).flatMap fun r => varsT r.term)))]) (fun i => i ≤ o.rules.length) (fun i => o.rules.length - i) 0 rfl rfl (Nat.zero_le _) ?_
  intro i hi
  by_cases hlt : i < o.rules.length
  · have c1 : (i : Int) < o.rules.length := by omega
    have c4 : IntKind.i64.wrap ((i : Int) + 1) = (i : Int) + 1 := wrap_in (by omega) (by omega)
    have hle := flat_le o.rules i
    have hv := vars_le o.rules[i].term
    simp only [c1, map_at hlt, q_wpLs_eq_1, q_wpLs_eq_2, q_wpL_eq_1, q_exL_eq_1, q_exL_eq_4, q_exL_eq_8, q_exL_eq_9, q_exL_eq_11, q_exL_eq_21, q_exL_eq_23, q_exL_eq_28, q_look_eq_1, q_insT_eq_1, q_insO_eq_1, q_awl_eq_1, q_awl_eq_2, q_awl_eq_5, q_awl_eq_6, q_awl_eq_7, q_AE_thenL_eq_1, q_AE_inBlockL_eq_1, q_putK_eq_1, q_vBin_eq_1, q_resV_eq_1, q_binV_eq_1, q_binInt_eq_3, q_cutInt_eq_8, q_vFaddr_eq_1, q_partV_eq_1, q_loadO_eq_1, q_isV_eq_1, q_vLoad_eq_1, q_vLoad_eq_2, q_V_cells_eq_2, q_splice_eq_1, q_isVarO_eq_1, q_stVarK_eq_1, q_storeK_eq_1, q_freeB_eq_1, q_freeT_eq_1, q_freeT_eq_2, q_freeO_eq_1, q_freeO_eq_2, q_V_noRef_eq_1, q_V_noRef_eq_2, q_K_noRef_eq_1, q_K_noRef_eq_2, q_K_noRef_eq_5, q_O_noRef_eq_2, q_List_map_cons, q_List_map_nil, q_List_take_zero, q_List_drop_succ_cons, q_List_drop_zero, q_List_nil_append, q_List_length_cons, q_List_length_nil, true_and, if_true, and_self, bne_iff_ne, ne_eq, Bool.and_true, Bool.true_and, Bool.or_true, Bool.false_or, List.append_nil, Nat.reduceAdd, Nat.reduceEqDiff, Nat.reduceBEq, Nat.zero_add, Int.toNat_natCast, Nat.le_refl, Int.natCast_nonneg, q_learn_eq_1, not_false_eq_true, q_condK_eq_1, q_condB_eq_1, decide_true, r_vIaddr_lst, List.length_map, encRule_len, lookT_here, lookT_next, lookO_here, f_rule1, uf25r5, uf25r6, uf25r7, uf25b8, uf25b9, uf25b10, uf25b11, uf25b12, uf25r13, uf25b14]
    refine call_l (s35' o.rules[i].term) ?_
    simp only [c4, q_wpLs_eq_1, q_wpLs_eq_2, q_wpL_eq_1, q_exL_eq_1, q_exL_eq_11, q_exL_eq_33, q_look_eq_1, q_look_eq_2, q_insT_eq_1, q_insO_eq_1, q_awl_eq_2, q_AE_thenL_eq_1, q_putK_eq_1, q_vBin_eq_1, q_resV_eq_1, q_binV_eq_1, q_binInt_eq_3, q_cutInt_eq_1, q_srcO_eq_1, q_srcV_eq_2, q_appK_eq_1, q_appendK_eq_1, q_mapT_eq_1, q_mapT_eq_2, q_mapO_eq_1, q_mapO_eq_2, q_delO_eq_1, q_delO_eq_2, q_V_scrub_eq_1, q_V_scrub_eq_3, q_K_scrub_eq_1, q_K_scrub_eq_2, q_K_scrub_eq_5, q_O_scrub_eq_1, q_O_scrub_eq_2, q_List_map_cons, q_List_map_nil, true_and, if_true, if_false, Nat.reduceEqDiff, Nat.reduceBEq, ints_len, lookT_here, lookT_next, lookO_here, lookO_next, r_map_scrub]
    refine ⟨by omega, by omega, Next.intro (i + 1) rfl ?_ (by omega) (by omega)⟩
    rw [take_flat hlt, ← nlI_append, ← ints_append]; rfl
  · have c1 : ¬ (i : Int) < o.rules.length := by omega
    have hle := flat_le o.rules i
    obtain rfl : i = o.rules.length := by omega
    rw [List.take_length] at hle
    simp only [c1, List.take_length, q_wpLs_eq_1, q_wpLs_eq_2, q_wpL_eq_1, q_exL_eq_1, q_exL_eq_11, q_exL_eq_28, q_look_eq_1, q_insT_eq_1, q_awl_eq_2, q_awl_eq_5, q_awl_eq_6, q_awl_eq_9, q_AE_thenL_eq_1, q_AE_thenL_eq_2, q_AE_inBlockL_eq_2, q_putK_eq_1, q_vBin_eq_1, q_resV_eq_1, q_binV_eq_1, q_binInt_eq_3, q_cutInt_eq_8, q_List_map_cons, q_List_map_nil, true_and, if_true, Nat.reduceBEq, q_learn_eq_1, q_condK_eq_1, q_condB_eq_2, decide_false, lookT_here, lookT_next, uf25r3, uf25b4, uf25b11, uf25b12, uf25r13, uf25b14]
    refine call_sort (o.rules.flatMap fun r => varsT r.term) (s49 (by omega)) rfl ?_
    simp only [q_wpLs_eq_1, q_wpLs_eq_2, q_wpL_eq_1, q_exL_eq_1, q_exL_eq_28, q_look_eq_1, q_insT_eq_1, q_insO_eq_1, q_awl_eq_2, q_awl_eq_5, q_AE_thenL_eq_1, q_List_map_cons, q_List_map_nil, Nat.reduceBEq, lookT_here, lookT_next, uf25r1, uf25b2]
    refine call_compact (sortI (o.rules.flatMap fun r => varsT r.term)) s50 rfl ?_
    simp only [intRows_norm, q_wpLs_eq_1, q_wpLs_eq_2, q_wpL_eq_1, q_exL_eq_1, q_look_eq_1, q_insT_eq_1, q_insO_eq_1, q_awl_eq_10, q_isArrO_eq_1, q_mapT_eq_1, q_mapT_eq_2, q_mapO_eq_1, q_mapO_eq_2, q_V_scrub_eq_1, q_V_scrub_eq_5, q_K_scrub_eq_1, q_K_scrub_eq_5, q_O_scrub_eq_2, q_endK_eq_2, q_endL_eq_1, q_endV_eq_1, q_resL_eq_1, q_resL_eq_2, q_resX_eq_1, q_one_eq_1, q_V_nrm_eq_1, q_V_nrm_eq_6, q_K_nrm_eq_1, q_K_nrm_eq_3, q_O_nrm_eq_2, q_V_owns_eq_1, q_K_owns_eq_1, q_V_toNew_eq_1, q_K_toNew_eq_2, q_C_norm_eq_4, q_C_norm_eq_5, true_and, if_true, and_self, List.nodup_nil, List.nodup_cons, not_false_eq_true, norm_lst, normRows_R, normRows_ints, lookT_here, lookO_here, List.not_mem_nil]
    exact hS
theorem filt_take {l : List Rule} {i : Nat} (h : i < l.length) : ((l.take (i + 1)).filter blindR).map (·.ask) = if blindR l[i] = true then ((l.take i).filter blindR).map (·.ask) ++ [l[i].ask] else ((l.take i).filter blindR).map (·.ask) := by
  rw [List.take_succ_eq_append_getElem h, List.filter_append, List.map_append]
  by_cases hb : blindR l[i] = true <;> simp [hb]
theorem filt_le (l : List Rule) (i : Nat) : (((l.take i).filter blindR).map (·.ask)).length ≤ i := by
  rw [List.length_map]
  exact Nat.le_trans (List.length_filter_le _ _) (by simp; omega)
theorem s27 (o : Order) (h60 : o.rules.length ≤ 60) : Spec Try.prog 27 [.agg (encOrder o)] (fun r => r = .k (.newl 3 1 none (ints (blindO o)))) := by
  refine Spec.of_awlS hf27 okf27 (by simp) fun S hS => ?_
  rw [← blind_eq] at hS
  simp only [q_wpLs_eq_1, q_wpLs_eq_2, q_wpL_eq_1, q_exL_eq_1, q_exL_eq_2, q_exL_eq_5, q_exL_eq_8, q_exL_eq_21, q_exL_eq_30, q_look_eq_1, q_look_eq_2, q_insT_eq_1, q_insO_eq_1, q_awl_eq_2, q_awl_eq_5, q_awl_eq_7, q_AE_thenL_eq_1, q_initT_eq_1, q_initT_eq_2, q_putK_eq_1, q_vFaddr_eq_1, q_loadO_eq_1, q_isV_eq_1, q_vLoad_eq_1, q_isVarO_eq_1, q_boxK_eq_1, q_freeB_eq_1, q_freeT_eq_1, q_freeT_eq_2, q_freeO_eq_1, q_freeO_eq_2, q_V_noRef_eq_1, q_V_noRef_eq_2, q_K_noRef_eq_2, q_K_noRef_eq_3, q_O_noRef_eq_1, q_O_noRef_eq_2, true_and, and_self, bne_iff_ne, ne_eq, Bool.and_eq_true, Bool.and_true, Bool.or_true, Bool.false_or, Nat.reduceAdd, Nat.reduceEqDiff, Nat.reduceBEq, Nat.zero_add, Nat.le_refl, not_false_eq_true, r_vLen_lst, List.length_map, encOrder_len, lookT_here, lookT_next, lookO_here, lookO_next, f_or3, r_all_noRef, uf27, uf27b21, uf27r22, uf27b23, uf27b24, uf27r25, uf27b26, uf27r27, uf27b28]
  rw [uf27l20]
  refine awl_loop (fun i : Nat => [(3, .k (.own 3)), (8, lst 4 (o.rules.map encRule)), (9, .int .i64 o.rules.length), (10, .int .i64 i)])
    (fun i => [(3, .arr 3 1 (nlI (((o.rules.take i).filter blindR).map (·.ask))) (ints (((o.rules.take i).filter blindR).map (·.ask))))]) (fun i => i ≤ o.rules.length) (fun i => o.rules.length - i) 0 rfl rfl (Nat.zero_le _) ?_
  intro i hi
  by_cases hlt : i < o.rules.length
  · have c1 : (i : Int) < o.rules.length := by omega
    have c4 : IntKind.i64.wrap ((i : Int) + 1) = (i : Int) + 1 := wrap_in (by omega) (by omega)
    have hle := filt_le o.rules i
    rw [List.length_map] at hle
    have ht := filt_take hlt
    have hp : ∀ b, (varsT o.rules[i].term).any (fun v => decide (v ≥ 15)) = b → plain o.rules[i].ask = true → blindR o.rules[i] = b := by
      intro b h1 h2; rw [blindR, h2, h1]; rfl
    by_cases hq : o.rules[i].ask = 0 ∨ o.rules[i].ask = 6 ∨ o.rules[i].ask = 7
    · have hpl : plain o.rules[i].ask = true := by simpa [plain] using hq
      rcases hq with hq | hq | hq
      all_goals
        simp only [c1, map_at hlt, hq, q_wpLs_eq_1, q_wpLs_eq_2, q_wpL_eq_1, q_putDL_eq_1, q_AOp_dst_eq_8, q_AOp_dst_eq_10, q_AOp_dst_eq_20, q_AOp_dst_eq_32, q_exL_eq_1, q_exL_eq_3, q_exL_eq_4, q_exL_eq_8, q_exL_eq_9, q_exL_eq_11, q_exL_eq_21, q_exL_eq_23, q_exL_eq_28, q_look_eq_1, q_look_eq_2, q_insT_eq_1, q_insO_eq_1, q_awl_eq_1, q_awl_eq_2, q_awl_eq_5, q_awl_eq_6, q_awl_eq_7, q_AE_thenL_eq_1, q_putK_eq_1, q_vBin_eq_1, q_resV_eq_1, q_binV_eq_1, q_binInt_eq_3, q_cutInt_eq_6, q_cutInt_eq_8, q_vFaddr_eq_1, q_partV_eq_1, q_loadO_eq_1, q_isV_eq_1, q_vLoad_eq_1, q_vLoad_eq_2, q_vPick_eq_1, q_vPick_eq_2, q_V_cells_eq_2, q_splice_eq_1, q_isVarO_eq_1, q_stVarK_eq_1, q_storeK_eq_1, q_freeB_eq_1, q_freeT_eq_1, q_freeT_eq_2, q_freeO_eq_1, q_freeO_eq_2, q_V_noRef_eq_1, q_V_noRef_eq_2, q_K_noRef_eq_1, q_K_noRef_eq_2, q_K_noRef_eq_5, q_O_noRef_eq_2, q_Bool_not_true, q_Bool_not_false, q_List_map_cons, q_List_map_nil, q_List_take_zero, q_List_drop_succ_cons, q_List_drop_zero, q_List_nil_append, q_List_length_cons, q_List_length_nil, true_and, if_true, if_false, Bool.false_eq_true, and_self, bne_iff_ne, ne_eq, Bool.and_true, Bool.true_and, Bool.or_true, Bool.false_or, BEq.rfl, List.append_nil, Nat.reduceAdd, Nat.reduceEqDiff, Nat.reduceLeDiff, Nat.reduceBEq, Nat.zero_add, Nat.add_zero, Int.toNat_natCast, Nat.le_refl, Int.natCast_nonneg, q_learn_eq_1, not_false_eq_true, q_guardP_eq_1, q_guardP_eq_2, q_condK_eq_1, q_condB_eq_1, q_condB_eq_2, q_exK_eq_1, decide_true, r_vIaddr_lst, List.length_map, encRule_len, lookT_here, lookT_next, Int.reduceBEq, lookO_here, f_rule0, f_rule1, uf27r5, uf27r8, uf27b9, uf27r10, uf27b11, uf27r12, uf27b13, uf27b14, uf27b15, uf27b16, uf27b17, uf27r18, uf27b19]
        refine call_l (s35' o.rules[i].term) ?_
        simp only [q_wpLs_eq_2, q_wpL_eq_1, q_AOp_dst_eq_32, q_exL_eq_28, q_look_eq_1, q_look_eq_2, q_insT_eq_1, q_insO_eq_1, q_Bool_not_true, q_List_map_cons, q_List_map_nil, Nat.reduceBEq, q_guardP_eq_1, q_condB_eq_1, q_exK_eq_1, lookT_here, lookT_next]
        refine call_s (s52 (varsT o.rules[i].term)) ?_
        cases hb : (varsT o.rules[i].term).any (fun v => decide (v ≥ 15))
        · simp only [hb, c4, q_wpLs_eq_1, q_wpLs_eq_2, q_wpL_eq_1, q_exL_eq_1, q_exL_eq_3, q_exL_eq_11, q_look_eq_1, q_look_eq_2, q_insT_eq_1, q_awl_eq_1, q_awl_eq_2, q_awl_eq_6, q_AE_thenL_eq_1, q_AE_inBlockL_eq_1, q_putK_eq_1, q_vBin_eq_1, q_resV_eq_1, q_binV_eq_1, q_binInt_eq_3, q_cutInt_eq_1, q_vPick_eq_1, true_and, if_true, Nat.reduceBEq, q_learn_eq_1, q_condK_eq_1, q_condB_eq_2, lookT_here, lookT_next, uf27r6, uf27b7]
          refine Next.intro (i + 1) rfl ?_ (by omega) (by omega)
          rw [ht, if_neg (by rw [hp false hb hpl]; simp)]; rfl
        · simp only [hb, c4, hq, nlI_app, q_wpLs_eq_1, q_wpLs_eq_2, q_wpL_eq_1, q_exL_eq_1, q_exL_eq_3, q_exL_eq_7, q_exL_eq_8, q_exL_eq_11, q_exL_eq_21, q_exL_eq_33, q_look_eq_1, q_look_eq_2, q_insT_eq_1, q_insO_eq_1, q_awl_eq_2, q_awl_eq_6, q_AE_thenL_eq_1, q_AE_inBlockL_eq_1, q_putK_eq_1, q_vBin_eq_1, q_resV_eq_1, q_binV_eq_1, q_binInt_eq_3, q_cutInt_eq_1, q_vFaddr_eq_1, q_loadO_eq_1, q_isV_eq_1, q_vLoad_eq_1, q_vPick_eq_1, q_isVarO_eq_1, q_nlApp_eq_2, q_vRow_eq_1, q_vLits_eq_1, q_vLits_eq_2, q_bsK_eq_1, q_srcO_eq_1, q_srcV_eq_2, q_appK_eq_1, q_appendK_eq_1, q_mapT_eq_1, q_mapT_eq_2, q_mapO_eq_1, q_mapO_eq_2, q_delO_eq_1, q_delO_eq_2, q_freeB_eq_1, q_freeT_eq_1, q_freeT_eq_2, q_freeO_eq_1, q_freeO_eq_2, q_V_noRef_eq_1, q_V_noRef_eq_2, q_V_noRef_eq_5, q_K_noRef_eq_1, q_K_noRef_eq_2, q_K_noRef_eq_3, q_K_noRef_eq_5, q_O_noRef_eq_1, q_O_noRef_eq_2, q_V_scrub_eq_1, q_V_scrub_eq_3, q_V_scrub_eq_4, q_K_scrub_eq_1, q_K_scrub_eq_2, q_K_scrub_eq_5, q_O_scrub_eq_1, q_O_scrub_eq_2, q_List_map_cons, q_List_map_nil, q_List_drop_zero, q_List_foldl_cons, q_List_foldl_nil, q_List_replicate_succ, q_List_replicate_zero, q_List_set_cons_zero, q_List_length_cons, q_List_length_nil, q_List_all_cons, q_List_all_nil, true_and, if_true, if_false, forall_eq, or_false, and_self, bne_iff_ne, ne_eq, Bool.and_eq_true, Bool.and_true, Bool.true_and, Bool.or_true, Bool.false_or, List.mem_cons, Nat.reduceEqDiff, Nat.reduceLeDiff, Nat.reduceLT, Nat.reduceBEq, Nat.zero_add, Nat.add_zero, q_learn_eq_1, not_false_eq_true, q_condK_eq_1, q_condB_eq_1, ints_len, List.length_map, encRule_len, lookT_here, lookT_next, lookO_here, lookO_next, List.not_mem_nil, f_rule0, r_all_noRef, r_map_scrub, uf27r6, uf27b7]
          refine ⟨by omega, by omega, Next.intro (i + 1) rfl ?_ (by omega) (by omega)⟩
          rw [ht, if_pos (hp true hb hpl), ints_snoc, nlI_snoc, hq]; rfl
    · have h1 : ¬ o.rules[i].ask = 0 := fun h => hq (.inl h)
      have h2 : ¬ o.rules[i].ask = 6 := fun h => hq (.inr (.inl h))
      have h3 : ¬ o.rules[i].ask = 7 := fun h => hq (.inr (.inr h))
      have hb : blindR o.rules[i] = false := by
        have : plain o.rules[i].ask = false := by simp [plain, h1, h2, h3]
        rw [blindR, this]; rfl
      simp only [c1, map_at hlt, h1, h2, h3, c4, q_wpLs_eq_1, q_wpLs_eq_2, q_wpL_eq_1, q_putDL_eq_1, q_AOp_dst_eq_8, q_AOp_dst_eq_10, q_AOp_dst_eq_20, q_AOp_dst_eq_32, q_exL_eq_1, q_exL_eq_3, q_exL_eq_4, q_exL_eq_8, q_exL_eq_9, q_exL_eq_11, q_exL_eq_21, q_exL_eq_23, q_exL_eq_28, q_look_eq_1, q_look_eq_2, q_insT_eq_1, q_insO_eq_1, q_awl_eq_1, q_awl_eq_2, q_awl_eq_5, q_awl_eq_6, q_awl_eq_7, q_AE_thenL_eq_1, q_AE_inBlockL_eq_1, q_putK_eq_1, q_vBin_eq_1, q_resV_eq_1, q_binV_eq_1, q_binInt_eq_3, q_cutInt_eq_1, q_cutInt_eq_6, q_cutInt_eq_8, q_vFaddr_eq_1, q_partV_eq_1, q_loadO_eq_1, q_isV_eq_1, q_vLoad_eq_1, q_vLoad_eq_2, q_vPick_eq_1, q_vPick_eq_2, q_vPick_eq_3, q_V_cells_eq_2, q_splice_eq_1, q_isVarO_eq_1, q_stVarK_eq_1, q_storeK_eq_1, q_freeB_eq_1, q_freeT_eq_1, q_freeT_eq_2, q_freeO_eq_1, q_freeO_eq_2, q_V_noRef_eq_1, q_V_noRef_eq_2, q_K_noRef_eq_1, q_K_noRef_eq_2, q_K_noRef_eq_5, q_O_noRef_eq_2, q_Bool_not_true, q_Bool_not_false, q_List_map_cons, q_List_map_nil, q_List_take_zero, q_List_drop_succ_cons, q_List_drop_zero, q_List_nil_append, q_List_length_cons, q_List_length_nil, true_and, if_true, if_false, Bool.false_eq_true, false_implies, forall_const, and_self, bne_iff_ne, ne_eq, Bool.and_true, Bool.true_and, Bool.or_true, Bool.false_or, List.append_nil, Nat.reduceAdd, Nat.reduceEqDiff, Nat.reduceLeDiff, Nat.reduceBEq, Nat.zero_add, Nat.add_zero, Int.toNat_natCast, Nat.le_refl, Int.natCast_nonneg, q_learn_eq_1, not_false_eq_true, q_guardP_eq_1, q_guardP_eq_2, q_condK_eq_1, q_condB_eq_1, q_condB_eq_2, q_exK_eq_1, condB_beq, decide_true, r_vIaddr_lst, List.length_map, encRule_len, lookT_here, lookT_next, lookO_here, f_rule0, f_rule1, uf27r5, uf27r6, uf27b7, uf27r8, uf27b9, uf27r10, uf27b11, uf27r12, uf27b13, uf27b14, uf27b15, uf27b16, uf27b17, uf27r18, uf27b19]
      refine Next.intro (i + 1) rfl ?_ (by omega) (by omega)
      rw [ht, if_neg (by simp [hb])]; rfl
  · have c1 : ¬ (i : Int) < o.rules.length := by omega
    have hle := filt_le o.rules i
    obtain rfl : i = o.rules.length := by omega
    rw [List.take_length] at hle
    simp only [c1, List.take_length, q_wpLs_eq_1, q_wpLs_eq_2, q_wpL_eq_1, q_exL_eq_1, q_exL_eq_11, q_exL_eq_28, q_look_eq_1, q_insT_eq_1, q_awl_eq_2, q_awl_eq_5, q_awl_eq_6, q_awl_eq_9, q_AE_thenL_eq_1, q_AE_thenL_eq_2, q_AE_inBlockL_eq_2, q_putK_eq_1, q_vBin_eq_1, q_resV_eq_1, q_binV_eq_1, q_binInt_eq_3, q_cutInt_eq_8, q_List_map_cons, q_List_map_nil, true_and, if_true, Nat.reduceBEq, q_learn_eq_1, q_condK_eq_1, q_condB_eq_2, decide_false, lookT_here, lookT_next, uf27r3, uf27b4, uf27b16, uf27b17, uf27r18, uf27b19]
    refine call_sort ((o.rules.filter blindR).map (·.ask)) (s49 (by omega)) rfl ?_
    simp only [q_wpLs_eq_1, q_wpLs_eq_2, q_wpL_eq_1, q_exL_eq_1, q_exL_eq_28, q_look_eq_1, q_insT_eq_1, q_insO_eq_1, q_awl_eq_2, q_awl_eq_5, q_AE_thenL_eq_1, q_List_map_cons, q_List_map_nil, Nat.reduceBEq, lookT_here, lookT_next, uf27r1, uf27b2]
    refine call_compact (sortI ((o.rules.filter blindR).map (·.ask))) s50 rfl ?_
    simp only [intRows_norm, q_wpLs_eq_1, q_wpLs_eq_2, q_wpL_eq_1, q_exL_eq_1, q_look_eq_1, q_insT_eq_1, q_insO_eq_1, q_awl_eq_10, q_isArrO_eq_1, q_mapT_eq_1, q_mapT_eq_2, q_mapO_eq_1, q_mapO_eq_2, q_V_scrub_eq_1, q_V_scrub_eq_5, q_K_scrub_eq_1, q_K_scrub_eq_5, q_O_scrub_eq_2, q_endK_eq_2, q_endL_eq_1, q_endV_eq_1, q_resL_eq_1, q_resL_eq_2, q_resX_eq_1, q_one_eq_1, q_V_nrm_eq_1, q_V_nrm_eq_6, q_K_nrm_eq_1, q_K_nrm_eq_3, q_O_nrm_eq_2, q_V_owns_eq_1, q_K_owns_eq_1, q_V_toNew_eq_1, q_K_toNew_eq_2, q_C_norm_eq_4, q_C_norm_eq_5, true_and, if_true, and_self, List.nodup_nil, List.nodup_cons, not_false_eq_true, norm_lst, normRows_R, normRows_ints, lookT_here, lookO_here, List.not_mem_nil]
    exact hS
end Go.Abs


set_option maxRecDepth 100000
namespace Go.Abs
open Go.Proofs
theorem s22 (a b : List Int) : Spec Try.prog 22 [lst 1 (ints a), lst 1 (ints b)] (fun r => r = .bool (decide (a = b))) := by
  refine Spec.of_len hf22 fun hlen => ?_
  have hla : a.length ≤ 9223372036854775807 := by have := hlen _ (List.mem_cons_self) (lstC 1 (ints a)) (by simp [lst, V.topC]) _ _ _ rfl; simpa [ints] using this
  clear hlen
  refine Spec.of_awl hf22 okf22 (by simp) ?_
  simp only [lst, lstC, ints_len, q_wpLs_eq_1, q_wpLs_eq_2, q_wpL_eq_1, q_exL_eq_1, q_exL_eq_11, q_exL_eq_30, q_look_eq_1, q_look_eq_2, q_lookO_eq_1, q_insT_eq_1, q_awl_eq_1, q_awl_eq_2, q_awl_eq_5, q_awl_eq_6, q_awl_eq_7, q_awl_eq_10, q_AE_thenL_eq_1, q_AE_thenL_eq_3, q_initT_eq_1, q_initT_eq_2, q_putK_eq_1, q_vBin_eq_1, q_resV_eq_1, q_binV_eq_1, q_binInt_eq_3, q_cutInt_eq_7, q_vLen_eq_1, q_mapT_eq_1, q_mapT_eq_2, q_mapO_eq_1, q_endK_eq_2, q_endL_eq_1, q_endV_eq_1, q_resL_eq_1, q_resL_eq_2, q_resX_eq_1, q_one_eq_1, q_V_nrm_eq_1, q_K_nrm_eq_1, q_V_owns_eq_1, q_K_owns_eq_2, q_V_toNew_eq_1, q_K_toNew_eq_1, q_C_norm_eq_1, q_C_norm_eq_4, q_C_norm_eq_5, true_and, if_true, and_self, List.nodup_nil, Nat.reduceAdd, Nat.reduceBEq, Nat.zero_add, q_learn_eq_1, q_condK_eq_1, condB_bne, normRows_ints, ints_len, lookT_here, lookT_next, uf22, uf22b16, uf22r17, uf22b18, uf22b19, uf22r20, uf22b21, uf22b22, uf22r23, uf22b24, uf22b25, uf22r26, uf22b27]
  refine ⟨fun h => ?_, fun h => ?_⟩
  · have : a ≠ b := by rintro rfl; exact h rfl
    simp [this]
  · rw [uf22l15]
    have h : a.length = b.length := by omega
    refine awl_loop (fun i : Nat => [(0, lst 1 (ints a)), (1, lst 1 (ints b)), (5, .int .i64 i)]) (fun _ => []) (fun i => i ≤ a.length ∧ ∀ j < i, a[j]? = b[j]?) (fun i => a.length - i) 0 rfl rfl ⟨Nat.zero_le _, by simp⟩ ?_
    rintro i ⟨hi, hj⟩
    by_cases hlt : i < a.length
    · have hlt2 : i < b.length := by omega
      have c1 : (i : Int) < a.length := by omega
      have c2 : (i : Int) < b.length := by omega
      have hw : IntKind.i64.wrap ((i : Int) + 1) = (i : Int) + 1 := wrap_in (by omega) (by omega)
      simp only [lst, lstC, ints_len, ints_isEmpty, ints_at hlt, ints_at hlt2, sz_of hlt, sz_of hlt2, c1, c2, hw, not_true_eq_false, q_wpLs_eq_1, q_wpLs_eq_2, q_wpLQs_eq_1, q_wpLQs_eq_2, q_wpL_eq_1, q_wpLQ_eq_1, q_exL_eq_1, q_exL_eq_11, q_exL_eq_30, q_exLQ_eq_1, q_exLQ_eq_9, q_exLQ_eq_12, q_exLQ_eq_24, q_look_eq_1, q_look_eq_2, q_lookO_eq_1, q_insT_eq_1, q_awl_eq_1, q_awl_eq_2, q_awl_eq_3, q_awl_eq_5, q_awl_eq_6, q_awl_eq_7, q_awl_eq_10, q_AE_thenL_eq_1, q_AE_thenL_eq_3, q_AE_inBlockL_eq_1, q_AE_inBlockL_eq_3, q_putK_eq_1, q_vBin_eq_1, q_resV_eq_1, q_binV_eq_1, q_binInt_eq_3, q_cutInt_eq_1, q_cutInt_eq_7, q_cutInt_eq_8, q_vLen_eq_1, q_partV_eq_2, q_vLoad_eq_2, q_vIaddr_eq_1, q_mapT_eq_1, q_mapT_eq_2, q_mapO_eq_1, q_endK_eq_2, q_endL_eq_1, q_endV_eq_1, q_resL_eq_1, q_resL_eq_2, q_resX_eq_1, q_one_eq_1, q_V_nrm_eq_1, q_K_nrm_eq_1, q_K_nrm_eq_2, q_V_owns_eq_1, q_K_owns_eq_2, q_V_toNew_eq_1, q_K_toNew_eq_1, q_C_norm_eq_1, q_C_norm_eq_4, q_C_norm_eq_5, q_List_getD_cons_zero, true_and, if_true, and_self, List.nodup_nil, Nat.reduceBEq, Nat.zero_add, Int.toNat_natCast, Nat.le_refl, Int.natCast_nonneg, q_learn_eq_1, q_condK_eq_1, q_condB_eq_1, condB_bne, decide_true, normRows_ints, ints_len, lookT_here, lookT_next, uf22r3, uf22r4, uf22b5, uf22b6, uf22r7, uf22b8, uf22b9, uf22b10, uf22b11, uf22r12, uf22b13, uf22b14]
      refine ⟨fun hne => ?_, fun he => ?_⟩
      · have : a ≠ b := by rintro rfl; exact hne rfl
        simp [this]
      · refine Next.intro (i + 1) rfl rfl ⟨by omega, fun j hjl => ?_⟩ (by omega)
        by_cases hji : j = i
        · subst hji; simp [hlt, hlt2, he]
        · exact hj j (by omega)
    · have c1 : ¬ (i : Int) < a.length := by omega
      simp only [lst, lstC, ints_len, ints_isEmpty, c1, not_true_eq_false, not_false_eq_true, q_wpLs_eq_1, q_wpLs_eq_2, q_wpL_eq_1, q_exL_eq_1, q_exL_eq_11, q_exL_eq_30, q_look_eq_1, q_look_eq_2, q_lookO_eq_1, q_insT_eq_1, q_awl_eq_2, q_awl_eq_5, q_awl_eq_6, q_awl_eq_9, q_awl_eq_10, q_AE_thenL_eq_1, q_AE_thenL_eq_2, q_AE_inBlockL_eq_2, q_putK_eq_1, q_vBin_eq_1, q_resV_eq_1, q_binV_eq_1, q_binInt_eq_3, q_cutInt_eq_8, q_vLen_eq_1, q_mapT_eq_1, q_mapT_eq_2, q_mapO_eq_1, q_endK_eq_2, q_endL_eq_1, q_endV_eq_1, q_resL_eq_1, q_resL_eq_2, q_resX_eq_1, q_one_eq_1, q_V_nrm_eq_1, q_K_nrm_eq_1, q_V_owns_eq_1, q_K_owns_eq_2, q_V_toNew_eq_1, q_K_toNew_eq_1, q_C_norm_eq_1, q_C_norm_eq_4, q_C_norm_eq_5, true_and, if_true, and_self, List.nodup_nil, Nat.reduceBEq, q_learn_eq_1, q_condK_eq_1, q_condB_eq_2, decide_false, normRows_ints, ints_len, lookT_here, lookT_next, uf22r1, uf22b2, uf22b11, uf22r12, uf22b13, uf22b14]
      have : a = b := by
        refine List.ext_getElem? fun j => ?_
        by_cases hjl : j < i
        · exact hj j hjl
        · rw [List.getElem?_eq_none (by omega), List.getElem?_eq_none (by omega)]
      simp [this]
end Go.Abs


set_option maxRecDepth 100000
set_option maxHeartbeats 4000000
namespace Go.Abs
open Go.Proofs
def oA : Order := ⟨[], false, [], [⟨0, .mk 2 7 []⟩, ⟨6, .mk 0 3 []⟩]⟩
def oB : Order := ⟨[], false, [], [⟨0, .mk 2 15 []⟩]⟩
def oC : Order := ⟨[], false, [], [⟨0, .mk 0 3 []⟩]⟩
theorem p1 : ordersO [oA, oC, oB] 0 = (1, 11) := by decide
theorem p2 : ordersO [oA, oB] 0 = (-1, 0) := by decide
theorem p3 : typeQ 6 = .tup [.int .i64 0, .bool true] := rfl
theorem p4 : checkO oA = 0 := by decide
theorem p5 : checkO oB = 0 := by decide
theorem p6 : checkO oC = 11 := by decide
theorem p7 : usesO oA = [7] := by decide
theorem p8 : usesO oB = [15] := by decide
theorem p9 : usesO oC = [] := by decide
theorem p10 : (gapsO oA).length = 20 := by decide
theorem p11 : (gapsO oB).length = 21 := by decide
theorem p12 : blindO oA = [] := by decide
theorem p13 : blindO oB = [0] := by decide
theorem s22' (l : List Int) : Spec Try.prog 22 [lst 1 (ints l), lst 1 (ints l)] (fun r => r = .bool true) := by
  have := s22 l l
  simpa using this
theorem s14 : Spec Try.prog 14 [] (fun r => r = .bool true) := by
  have c1 := s18 [oA, oC, oB]
  rw [p1] at c1
  have c2 := s18 [oA, oB]
  rw [p2] at c2
  have c3 := s16 6
  rw [p3] at c3
  have c4 := s20 oA
  rw [p4] at c4
  have c5 := s20 oB
  rw [p5] at c5
  have c6 := s20 oC
  rw [p6] at c6
  have c7 := s25 oA (by decide)
  rw [p7] at c7
  have c8 := s25 oB (by decide)
  rw [p8] at c8
  have c9 := s25 oC (by decide)
  rw [p9] at c9
  have c10 := s23 oA
  have c11 := s23 oB
  have c12 := s27 oA (by decide)
  rw [p12] at c12
  have c13 := s27 oB (by decide)
  rw [p13] at c13
  refine Spec.of_awlS hf14 okf14 (by simp) fun S hS => ?_
  simp only [q_wpLs_eq_1, q_wpLs_eq_2, q_wpL_eq_1, q_exL_eq_1, q_exL_eq_4, q_exL_eq_6, q_exL_eq_7, q_exL_eq_8, q_exL_eq_9, q_exL_eq_28, q_look_eq_1, q_look_eq_2, q_insT_eq_1, q_insO_eq_1, q_awl_eq_2, q_awl_eq_5, q_AE_thenL_eq_1, q_initT_eq_1, q_putK_eq_1, q_loadO_eq_1, q_isV_eq_1, q_vLoad_eq_1, q_vBuild_eq_1, q_vBuild_eq_2, q_rowV_eq_1, q_ofRow_eq_2, q_pureRow_eq_1, q_pureRow_eq_2, q_pureRow_eq_3, q_V_cells_eq_1, q_V_cells_eq_2, q_V_cells_eq_3, q_splice_eq_1, q_vRow_eq_2, q_vLits_eq_1, q_vLits_eq_2, q_bsK_eq_1, q_stVarK_eq_1, q_storeK_eq_1, q_mapT_eq_1, q_mapT_eq_2, q_mapO_eq_1, q_mapO_eq_2, q_delO_eq_1, q_delO_eq_2, q_freeB_eq_1, q_freeT_eq_1, q_freeT_eq_2, q_freeO_eq_1, q_freeO_eq_2, q_V_noRef_eq_1, q_V_noRef_eq_2, q_V_noRef_eq_3, q_K_noRef_eq_1, q_K_noRef_eq_2, q_K_noRef_eq_3, q_O_noRef_eq_1, q_O_noRef_eq_2, q_Option_map_some, q_Option_map_none, q_List_map_cons, q_List_map_nil, q_List_take_succ_cons, q_List_take_zero, q_List_drop_succ_cons, q_List_drop_zero, q_List_nil_append, q_List_cons_append, q_List_foldl_cons, q_List_foldl_nil, q_List_replicate_succ, q_List_replicate_zero, q_List_set_cons_zero, q_List_set_cons_succ, q_List_length_cons, q_List_length_nil, q_List_all_cons, q_List_all_nil, true_and, if_true, if_false, forall_eq_or_imp, forall_eq, or_false, and_self, bne_iff_ne, ne_eq, Bool.and_eq_true, Bool.and_true, Bool.true_and, Bool.or_true, Bool.false_or, List.append_nil, List.mem_cons, Nat.reduceAdd, Nat.reduceEqDiff, Nat.reduceLeDiff, Nat.reduceLT, Nat.reduceBEq, Nat.zero_add, Nat.le_refl, not_false_eq_true, lookT_here, lookT_next, lookO_here, lookO_next, List.not_mem_nil, z_V_k, z_V_agg, z_K_c, z_O_var, z_frzT, z_frzO, q_awl_eq_14, z_agF1, z_V_agk, z_K_own_arr, z_K_ptr_arr, uf14, uf14r13, uf14b14, uf14r15, uf14b16, uf14r17, uf14b18, uf14r19, uf14b20, uf14r21, uf14b22, uf14r23, uf14b24, uf14r25, uf14b26, uf14r27, uf14b28]
  refine call_s c1 ?_ (ha := by rfl)
  simp only [pairV, q_wpLs_eq_1, q_wpLs_eq_2, q_wpL_eq_1, q_exL_eq_1, q_exL_eq_7, q_exL_eq_8, q_exL_eq_27, q_exL_eq_28, q_look_eq_1, q_insT_eq_1, q_insO_eq_1, q_awl_eq_2, q_awl_eq_5, q_AE_thenL_eq_1, q_putK_eq_1, q_vExtr_eq_1, q_loadO_eq_1, q_isV_eq_1, q_vLoad_eq_1, q_ofRow_eq_2, q_pureRow_eq_1, q_pureRow_eq_2, q_vRow_eq_2, q_vLits_eq_1, q_vLits_eq_2, q_bsK_eq_1, q_freeB_eq_1, q_freeT_eq_1, q_freeT_eq_2, q_freeO_eq_1, q_freeO_eq_2, q_V_noRef_eq_1, q_V_noRef_eq_2, q_V_noRef_eq_4, q_K_noRef_eq_1, q_K_noRef_eq_2, q_K_noRef_eq_3, q_O_noRef_eq_1, q_O_noRef_eq_2, q_V_noRefL_eq_1, q_V_noRefL_eq_2, q_Option_map_some, q_List_map_cons, q_List_map_nil, q_List_take_succ_cons, q_List_take_zero, q_List_drop_zero, q_List_foldl_cons, q_List_foldl_nil, q_List_replicate_succ, q_List_replicate_zero, q_List_set_cons_zero, q_List_set_cons_succ, q_List_length_cons, q_List_length_nil, q_List_getElemQ_cons_zero, q_List_getElemQ_cons_succ, q_List_all_cons, q_List_all_nil, true_and, if_true, forall_eq_or_imp, forall_eq, or_false, and_self, bne_iff_ne, ne_eq, Bool.and_eq_true, Bool.and_true, Bool.true_and, Bool.or_true, Bool.false_or, List.mem_cons, Nat.reduceAdd, Nat.reduceEqDiff, Nat.reduceLT, Nat.reduceBEq, Nat.zero_add, Nat.le_refl, not_false_eq_true, lookT_here, lookT_next, lookO_here, lookO_next, List.not_mem_nil, uf14r11, uf14b12]
  refine call_s c2 ?_ (ha := by rfl)
  simp only [pairV, q_wpLs_eq_1, q_wpLs_eq_2, q_wpL_eq_1, q_exL_eq_1, q_exL_eq_27, q_exL_eq_28, q_look_eq_1, q_look_eq_2, q_insT_eq_1, q_awl_eq_2, q_awl_eq_5, q_AE_thenL_eq_1, q_putK_eq_1, q_vExtr_eq_1, q_List_map_cons, q_List_map_nil, q_List_getElemQ_cons_zero, q_List_getElemQ_cons_succ, true_and, Int.reduceNeg, Nat.reduceBEq, lookT_here, lookT_next, uf14r9, uf14b10]
  refine call_s c3 ?_ (ha := by rfl)
  simp only [q_wpLs_eq_1, q_wpLs_eq_2, q_wpL_eq_1, q_exL_eq_1, q_exL_eq_8, q_exL_eq_27, q_exL_eq_28, q_look_eq_1, q_insT_eq_1, q_awl_eq_2, q_awl_eq_5, q_AE_thenL_eq_1, q_putK_eq_1, q_vExtr_eq_1, q_loadO_eq_1, q_isV_eq_1, q_vLoad_eq_1, q_ofRow_eq_2, q_pureRow_eq_1, q_pureRow_eq_2, q_Option_map_some, q_List_map_cons, q_List_map_nil, q_List_take_succ_cons, q_List_take_zero, q_List_drop_zero, q_List_length_cons, q_List_length_nil, q_List_getElemQ_cons_zero, q_List_getElemQ_cons_succ, true_and, if_true, Int.reduceNeg, Nat.reduceAdd, Nat.reduceBEq, Nat.zero_add, Nat.le_refl, lookT_here, lookT_next, lookO_here, lookO_next, uf14r7, uf14b8]
  refine call_s c4 ?_ (ha := by rfl)
  simp only [q_wpLs_eq_2, q_wpL_eq_1, q_AOp_dst_eq_8, q_AOp_dst_eq_32, q_exL_eq_1, q_exL_eq_8, q_exL_eq_11, q_exL_eq_28, q_look_eq_1, q_look_eq_2, q_insT_eq_1, q_putK_eq_1, q_vBin_eq_1, q_resV_eq_1, q_binV_eq_1, q_binInt_eq_3, q_cutInt_eq_6, q_loadO_eq_1, q_isV_eq_1, q_vLoad_eq_1, q_ofRow_eq_2, q_pureRow_eq_1, q_pureRow_eq_2, q_Bool_not_true, q_Option_map_some, q_List_map_cons, q_List_map_nil, q_List_take_succ_cons, q_List_take_zero, q_List_drop_zero, q_List_length_cons, q_List_length_nil, true_and, if_true, Int.reduceNeg, BEq.rfl, Nat.reduceAdd, Nat.reduceBEq, Nat.zero_add, Nat.le_refl, q_guardP_eq_1, q_condB_eq_1, q_exK_eq_1, lookT_here, lookT_next, lookO_here, lookO_next]
  refine call_s c5 ?_ (ha := by rfl)
  simp only [q_wpLs_eq_2, q_wpL_eq_1, q_AOp_dst_eq_8, q_AOp_dst_eq_10, q_AOp_dst_eq_32, q_exL_eq_1, q_exL_eq_3, q_exL_eq_8, q_exL_eq_11, q_exL_eq_28, q_look_eq_1, q_look_eq_2, q_insT_eq_1, q_putK_eq_1, q_vBin_eq_1, q_resV_eq_1, q_binV_eq_1, q_binInt_eq_3, q_cutInt_eq_6, q_loadO_eq_1, q_isV_eq_1, q_vLoad_eq_1, q_vPick_eq_1, q_ofRow_eq_2, q_pureRow_eq_1, q_pureRow_eq_2, q_Bool_not_true, q_Option_map_some, q_List_map_cons, q_List_map_nil, q_List_take_succ_cons, q_List_take_zero, q_List_drop_zero, q_List_length_cons, q_List_length_nil, true_and, if_true, Int.reduceNeg, BEq.rfl, Nat.reduceAdd, Nat.reduceBEq, Nat.zero_add, Nat.le_refl, q_guardP_eq_1, q_condB_eq_1, q_exK_eq_1, lookT_here, lookT_next, lookO_here, lookO_next]
  refine call_s c6 ?_ (ha := by rfl)
  simp only [q_wpLs_eq_1, q_wpLs_eq_2, q_wpL_eq_1, q_AOp_dst_eq_1, q_AOp_dst_eq_10, q_exL_eq_1, q_exL_eq_3, q_exL_eq_8, q_exL_eq_11, q_exL_eq_28, q_look_eq_1, q_look_eq_2, q_insT_eq_1, q_awl_eq_2, q_awl_eq_5, q_AE_thenL_eq_1, q_putK_eq_1, q_vBin_eq_1, q_resV_eq_1, q_binV_eq_1, q_binInt_eq_3, q_cutInt_eq_6, q_loadO_eq_1, q_isV_eq_1, q_vLoad_eq_1, q_vPick_eq_1, q_ofRow_eq_2, q_pureRow_eq_1, q_pureRow_eq_2, q_Bool_not_true, q_Option_map_some, q_List_map_cons, q_List_map_nil, q_List_take_succ_cons, q_List_take_zero, q_List_drop_zero, q_List_length_cons, q_List_length_nil, true_and, if_true, Int.reduceNeg, BEq.rfl, Nat.reduceAdd, Nat.reduceBEq, Nat.zero_add, Nat.le_refl, q_guardP_eq_1, q_condB_eq_1, q_exK_eq_1, lookT_here, lookT_next, lookO_here, lookO_next, uf14r5, uf14b6]
  refine call_l c7 ?_ (ha := by rfl)
  simp only [q_wpLs_eq_2, q_wpL_eq_1, q_exL_eq_7, q_exL_eq_28, q_look_eq_1, q_look_eq_2, q_insT_eq_1, q_insO_eq_1, q_vRow_eq_1, q_vLits_eq_1, q_vLits_eq_2, q_bsK_eq_1, q_freeB_eq_1, q_freeT_eq_1, q_freeT_eq_2, q_freeO_eq_1, q_freeO_eq_2, q_V_noRef_eq_1, q_V_noRef_eq_2, q_V_noRef_eq_4, q_K_noRef_eq_1, q_K_noRef_eq_2, q_K_noRef_eq_3, q_O_noRef_eq_1, q_O_noRef_eq_2, q_V_noRefL_eq_1, q_V_noRefL_eq_2, q_List_map_cons, q_List_map_nil, q_List_foldl_cons, q_List_foldl_nil, q_List_replicate_succ, q_List_replicate_zero, q_List_set_cons_zero, q_List_length_cons, q_List_length_nil, q_List_all_cons, q_List_all_nil, true_and, forall_eq, or_false, and_self, bne_iff_ne, ne_eq, Bool.and_eq_true, Bool.and_true, Bool.true_and, Bool.or_true, Bool.false_or, Int.reduceNeg, List.mem_cons, Nat.reduceEqDiff, Nat.reduceLT, Nat.reduceBEq, Nat.zero_add, not_false_eq_true, lookT_here, lookT_next, List.not_mem_nil]
  refine call_s (s22' [7]) ?_ (ha := by rfl)
  simp only [q_wpLs_eq_2, q_wpL_eq_1, q_AOp_dst_eq_8, q_AOp_dst_eq_32, q_exL_eq_1, q_exL_eq_8, q_exL_eq_28, q_look_eq_1, q_insT_eq_1, q_putK_eq_1, q_loadO_eq_1, q_isV_eq_1, q_vLoad_eq_1, q_ofRow_eq_2, q_pureRow_eq_1, q_pureRow_eq_2, q_Bool_not_true, q_Option_map_some, q_List_map_cons, q_List_map_nil, q_List_take_succ_cons, q_List_take_zero, q_List_drop_zero, q_List_length_cons, q_List_length_nil, true_and, if_true, Int.reduceNeg, Nat.reduceAdd, Nat.reduceBEq, Nat.zero_add, Nat.le_refl, q_guardP_eq_1, q_condB_eq_1, q_exK_eq_1, lookT_here, lookT_next, lookO_here, lookO_next]
  refine call_l c8 ?_ (ha := by rfl)
  simp only [q_wpLs_eq_2, q_wpL_eq_1, q_AOp_dst_eq_7, q_AOp_dst_eq_32, q_exL_eq_7, q_exL_eq_28, q_look_eq_1, q_look_eq_2, q_insT_eq_1, q_insO_eq_1, q_vRow_eq_1, q_vLits_eq_1, q_vLits_eq_2, q_bsK_eq_1, q_freeB_eq_1, q_freeT_eq_1, q_freeT_eq_2, q_freeO_eq_1, q_freeO_eq_2, q_V_noRef_eq_1, q_V_noRef_eq_2, q_V_noRef_eq_4, q_K_noRef_eq_1, q_K_noRef_eq_2, q_K_noRef_eq_3, q_O_noRef_eq_1, q_O_noRef_eq_2, q_V_noRefL_eq_1, q_V_noRefL_eq_2, q_Bool_not_true, q_List_map_cons, q_List_map_nil, q_List_foldl_cons, q_List_foldl_nil, q_List_replicate_succ, q_List_replicate_zero, q_List_set_cons_zero, q_List_length_cons, q_List_length_nil, q_List_all_cons, q_List_all_nil, true_and, forall_eq, or_false, and_self, bne_iff_ne, ne_eq, Bool.and_eq_true, Bool.and_true, Bool.true_and, Bool.or_true, Bool.false_or, Int.reduceNeg, List.mem_cons, Nat.reduceEqDiff, Nat.reduceLT, Nat.reduceBEq, Nat.zero_add, not_false_eq_true, q_guardP_eq_1, q_condB_eq_1, q_exK_eq_1, lookT_here, lookT_next, List.not_mem_nil]
  refine call_s (s22' [15]) ?_ (ha := by rfl)
  simp only [q_wpLs_eq_2, q_wpL_eq_1, q_AOp_dst_eq_8, q_AOp_dst_eq_32, q_exL_eq_1, q_exL_eq_3, q_exL_eq_8, q_exL_eq_28, q_look_eq_1, q_look_eq_2, q_insT_eq_1, q_putK_eq_1, q_loadO_eq_1, q_isV_eq_1, q_vLoad_eq_1, q_vPick_eq_1, q_ofRow_eq_2, q_pureRow_eq_1, q_pureRow_eq_2, q_Bool_not_true, q_Option_map_some, q_List_map_cons, q_List_map_nil, q_List_take_succ_cons, q_List_take_zero, q_List_drop_zero, q_List_length_cons, q_List_length_nil, true_and, if_true, Int.reduceNeg, Nat.reduceAdd, Nat.reduceBEq, Nat.zero_add, Nat.le_refl, q_guardP_eq_1, q_condB_eq_1, q_exK_eq_1, lookT_here, lookT_next, lookO_here, lookO_next]
  refine call_l c9 ?_ (ha := by rfl)
  simp only [List.length_nil, q_wpLs_eq_1, q_wpLs_eq_2, q_wpL_eq_1, q_AOp_dst_eq_10, q_AOp_dst_eq_27, q_exL_eq_1, q_exL_eq_3, q_exL_eq_8, q_exL_eq_11, q_exL_eq_28, q_exL_eq_30, q_look_eq_1, q_look_eq_2, q_insT_eq_1, q_insO_eq_1, q_awl_eq_2, q_awl_eq_5, q_AE_thenL_eq_1, q_putK_eq_1, q_vBin_eq_1, q_resV_eq_1, q_binV_eq_1, q_binInt_eq_3, q_cutInt_eq_6, q_vLen_eq_2, q_lenO_eq_1, q_loadO_eq_1, q_isV_eq_1, q_vLoad_eq_1, q_vPick_eq_1, q_ofRow_eq_2, q_pureRow_eq_1, q_pureRow_eq_2, q_Bool_not_true, q_Option_map_some, q_List_map_cons, q_List_map_nil, q_List_take_succ_cons, q_List_take_zero, q_List_drop_zero, q_List_length_cons, true_and, if_true, Int.reduceNeg, BEq.rfl, Nat.reduceAdd, Nat.reduceBEq, Nat.zero_add, Nat.le_refl, q_guardP_eq_1, q_condB_eq_1, q_exK_eq_1, ints_len, lookT_here, lookT_next, Int.cast_ofNat_Int, lookO_here, lookO_next, uf14r3, uf14b4]
  refine call_l c10 ?_ (ha := by rfl)
  simp only [p10, q_wpLs_eq_2, q_wpL_eq_1, q_AOp_dst_eq_8, q_AOp_dst_eq_32, q_exL_eq_1, q_exL_eq_8, q_exL_eq_11, q_exL_eq_28, q_exL_eq_30, q_look_eq_1, q_look_eq_2, q_insT_eq_1, q_insO_eq_1, q_putK_eq_1, q_vBin_eq_1, q_resV_eq_1, q_binV_eq_1, q_binInt_eq_3, q_cutInt_eq_6, q_vLen_eq_2, q_lenO_eq_1, q_loadO_eq_1, q_isV_eq_1, q_vLoad_eq_1, q_ofRow_eq_2, q_pureRow_eq_1, q_pureRow_eq_2, q_Bool_not_true, q_Option_map_some, q_List_map_cons, q_List_map_nil, q_List_take_succ_cons, q_List_take_zero, q_List_drop_zero, q_List_length_cons, q_List_length_nil, true_and, if_true, Int.reduceNeg, BEq.rfl, Nat.reduceAdd, Nat.reduceBEq, Nat.zero_add, Nat.le_refl, q_guardP_eq_1, q_condB_eq_1, q_exK_eq_1, ints_len, lookT_here, lookT_next, Int.cast_ofNat_Int, lookO_here, lookO_next]
  refine call_l c11 ?_ (ha := by rfl)
  simp only [p11, q_wpLs_eq_2, q_wpL_eq_1, q_AOp_dst_eq_8, q_AOp_dst_eq_10, q_AOp_dst_eq_27, q_AOp_dst_eq_32, q_exL_eq_1, q_exL_eq_3, q_exL_eq_8, q_exL_eq_11, q_exL_eq_28, q_exL_eq_30, q_look_eq_1, q_look_eq_2, q_insT_eq_1, q_insO_eq_1, q_putK_eq_1, q_vBin_eq_1, q_resV_eq_1, q_binV_eq_1, q_binInt_eq_3, q_cutInt_eq_6, q_vLen_eq_2, q_lenO_eq_1, q_loadO_eq_1, q_isV_eq_1, q_vLoad_eq_1, q_vPick_eq_1, q_ofRow_eq_2, q_pureRow_eq_1, q_pureRow_eq_2, q_Bool_not_true, q_Option_map_some, q_List_map_cons, q_List_map_nil, q_List_take_succ_cons, q_List_take_zero, q_List_drop_zero, q_List_length_cons, q_List_length_nil, true_and, if_true, Int.reduceNeg, BEq.rfl, Nat.reduceAdd, Nat.reduceBEq, Nat.zero_add, Nat.le_refl, q_guardP_eq_1, q_condB_eq_1, q_exK_eq_1, ints_len, lookT_here, lookT_next, Int.cast_ofNat_Int, lookO_here, lookO_next]
  refine call_l c12 ?_ (ha := by rfl)
  simp only [List.length_nil, q_wpLs_eq_2, q_wpL_eq_1, q_AOp_dst_eq_8, q_AOp_dst_eq_10, q_AOp_dst_eq_27, q_AOp_dst_eq_32, q_exL_eq_1, q_exL_eq_3, q_exL_eq_8, q_exL_eq_11, q_exL_eq_28, q_exL_eq_30, q_look_eq_1, q_look_eq_2, q_insT_eq_1, q_insO_eq_1, q_putK_eq_1, q_vBin_eq_1, q_resV_eq_1, q_binV_eq_1, q_binInt_eq_3, q_cutInt_eq_6, q_vLen_eq_2, q_lenO_eq_1, q_loadO_eq_1, q_isV_eq_1, q_vLoad_eq_1, q_vPick_eq_1, q_ofRow_eq_2, q_pureRow_eq_1, q_pureRow_eq_2, q_Bool_not_true, q_Option_map_some, q_List_map_cons, q_List_map_nil, q_List_take_succ_cons, q_List_take_zero, q_List_drop_zero, q_List_length_cons, true_and, if_true, Int.reduceNeg, BEq.rfl, Nat.reduceAdd, Nat.reduceBEq, Nat.zero_add, Nat.le_refl, q_guardP_eq_1, q_condB_eq_1, q_exK_eq_1, ints_len, lookT_here, lookT_next, Int.cast_ofNat_Int, lookO_here, lookO_next]
  refine call_l c13 ?_ (ha := by rfl)
  simp only [q_wpLs_eq_2, q_wpL_eq_1, q_AOp_dst_eq_7, q_AOp_dst_eq_32, q_exL_eq_7, q_exL_eq_28, q_look_eq_1, q_look_eq_2, q_insT_eq_1, q_insO_eq_1, q_vRow_eq_1, q_vLits_eq_1, q_vLits_eq_2, q_bsK_eq_1, q_freeB_eq_1, q_freeT_eq_1, q_freeT_eq_2, q_freeO_eq_1, q_freeO_eq_2, q_V_noRef_eq_1, q_V_noRef_eq_2, q_V_noRef_eq_4, q_K_noRef_eq_1, q_K_noRef_eq_2, q_K_noRef_eq_3, q_O_noRef_eq_1, q_O_noRef_eq_2, q_V_noRefL_eq_1, q_V_noRefL_eq_2, q_Bool_not_true, q_List_map_cons, q_List_map_nil, q_List_foldl_cons, q_List_foldl_nil, q_List_replicate_succ, q_List_replicate_zero, q_List_set_cons_zero, q_List_length_cons, q_List_length_nil, q_List_all_cons, q_List_all_nil, true_and, forall_eq, or_false, and_self, bne_iff_ne, ne_eq, Bool.and_eq_true, Bool.and_true, Bool.true_and, Bool.or_true, Bool.false_or, Int.reduceNeg, List.mem_cons, Nat.reduceEqDiff, Nat.reduceLT, Nat.reduceBEq, Nat.zero_add, not_false_eq_true, q_guardP_eq_1, q_condB_eq_1, q_exK_eq_1, lookT_here, lookT_next, List.not_mem_nil]
  refine call_s (s22' [0]) ?_ (ha := by rfl)
  simp only [q_wpLs_eq_1, q_wpLs_eq_2, q_wpL_eq_1, q_AOp_dst_eq_1, q_exL_eq_1, q_exL_eq_3, q_look_eq_1, q_look_eq_2, q_insT_eq_1, q_awl_eq_2, q_awl_eq_5, q_awl_eq_10, q_AE_thenL_eq_1, q_putK_eq_1, q_vPick_eq_1, q_mapT_eq_1, q_mapT_eq_2, q_mapO_eq_1, q_mapO_eq_2, q_endK_eq_2, q_endL_eq_1, q_endV_eq_1, q_resL_eq_1, q_resL_eq_2, q_resX_eq_1, q_one_eq_1, q_V_nrm_eq_1, q_V_nrm_eq_2, q_V_nrm_eq_4, q_K_nrm_eq_1, q_K_nrm_eq_3, q_V_nrmL_eq_1, q_V_nrmL_eq_2, q_O_nrm_eq_1, q_O_nrm_eq_2, q_V_owns_eq_1, q_K_owns_eq_2, q_V_toNew_eq_1, q_K_toNew_eq_1, q_C_norm_eq_1, q_C_norm_eq_4, q_C_norm_eq_5, q_C_norm_eq_6, q_C_normRow_eq_1, q_C_normRow_eq_2, q_C_normRows_eq_1, q_C_normRows_eq_2, q_Bool_not_true, q_List_map_cons, q_List_map_nil, q_List_isEmpty_nil, q_List_isEmpty_cons, true_and, if_true, if_false, Bool.false_eq_true, and_self, Int.reduceNeg, List.nodup_nil, Nat.reduceBEq, q_guardP_eq_1, q_condB_eq_1, q_exK_eq_1, normRows_ints, lookT_here, lookT_next, uf14r1, uf14b2]
  exact hS
end Go.Abs


set_option maxRecDepth 100000
set_option maxHeartbeats 4000000
namespace Go.Abs
open Go.Proofs
theorem chk_b0 : checkT (.mk 1 0 []) = (1, 0) := by decide
theorem chk_i0 : checkT (.mk 0 0 []) = (0, 0) := by decide
theorem rem_at {w : Int} {n : Nat} (h0 : 0 ≤ w) (hn : 0 < n) : ∃ k : Nat, w.tmod n = k ∧ k < n := by
  refine ⟨(w.tmod n).toNat, ?_, ?_⟩
  · have := Int.tmod_nonneg (n : Int) h0; omega
  · have := Int.tmod_lt_of_pos w (b := n) (by omega)
    have := Int.tmod_nonneg (n : Int) h0; omega
theorem call_s1 {P : Program} {f : FuncId} {vs : List V} {K : KK} {d : Nat} {ts : TS} {os : OS} {args : List V} {r : V} (hs : Spec P f args (fun r' => r' = r)) (hk : K (insT d r ts) os)
    (hp : vs.all (fun v => (lendL os v).isPure) = true := by simp [lendL, lendO, lookO, V.isPure])
    (ha : vs.map (fun v => (lendL os v).norm) = args := by simp [lendL, lendO, lookO, V.norm, encT_eq, encRule, encOrder, encChoice, encCell, norm_list, lst]) (hr : r.scalar = true := by rfl) : callK P f vs [] K (some d) ts os :=
  (call_s (X := False) hs hk hp ha hr).elim id False.elim
theorem encChoice_set (l : List Choice) (k : Nat) (n : Int) (h : k < l.length) : (l.map encChoice).set k [.int .i64 l[k].ask, .int .i64 n, .bool l[k].whole] = (l.set k ⟨l[k].ask, n, l[k].whole⟩).map encChoice := by
  rw [List.map_set]; rfl
abbrev orow (o : Order) : List K := [.c (.str o.name), .c (.bool o.accepts), .c (lstC 3 (o.choices.map encChoice)), .c (lstC 4 (o.rules.map encRule))]
theorem k4rest (o : Order) (w n : Int) (hw : 0 ≤ w ∧ w < 256) (h60 : o.choices.length ≤ 60) (ok : OkO o) (S : V → Prop) (hS : S (.bool true)) :
    awl Try.prog f4b22 (endK [RX.t 6] S) [(1, .int .u8 w), (2, .int .i64 n), (3, .k (.ptr 3 0)), (7, .bool true)] [(3, .var 25 (orow o))] := by
  have ww : IntKind.i64.wrap w = w := wrap_in (by omega) (by omega)
  by_cases hr : o.choices.length = 0
  · have c1 : (o.choices.length : Int) = 0 := by omega
    simp only [c1, List.length_map, q_wpLs_eq_1, q_wpLs_eq_2, q_wpL_eq_1, q_exL_eq_1, q_exL_eq_8, q_exL_eq_11, q_exL_eq_21, q_exL_eq_30, q_look_eq_1, q_look_eq_2, q_insT_eq_1, q_awl_eq_2, q_awl_eq_5, q_awl_eq_6, q_awl_eq_10, q_AE_thenL_eq_1, q_AE_thenL_eq_3, q_putK_eq_1, q_vBin_eq_1, q_resV_eq_1, q_binV_eq_1, q_binInt_eq_3, q_cutInt_eq_6, q_vFaddr_eq_1, q_loadO_eq_1, q_isV_eq_1, q_vLoad_eq_1, q_ofRow_eq_1, q_pureRow_eq_1, q_pureRow_eq_2, q_isVarO_eq_1, q_mapT_eq_1, q_mapT_eq_2, q_mapO_eq_1, q_mapO_eq_2, q_endK_eq_2, q_endL_eq_1, q_endV_eq_1, q_resL_eq_1, q_resL_eq_2, q_resX_eq_1, q_one_eq_1, q_V_nrm_eq_1, q_K_nrm_eq_1, q_K_nrm_eq_3, q_O_nrm_eq_1, q_V_owns_eq_1, q_K_owns_eq_2, q_V_toNew_eq_1, q_K_toNew_eq_1, q_C_norm_eq_4, q_C_norm_eq_5, q_C_norm_eq_6, q_Option_map_some, q_List_map_cons, q_List_map_nil, q_List_take_succ_cons, q_List_take_zero, q_List_drop_succ_cons, q_List_drop_zero, q_List_length_cons, q_List_length_nil, true_and, if_true, if_false, Bool.false_eq_true, and_self, BEq.rfl, List.nodup_nil, Nat.reduceAdd, Nat.reduceLeDiff, Nat.reduceBEq, Nat.zero_add, q_learn_eq_1, q_condK_eq_1, q_condB_eq_1, r_vLen_lst, norm_lst, normRows_Ch, normRows_R, List.length_map, lookT_here, lookT_next, lookO_here, uf4r17, uf4b18, uf4b19, uf4r20, uf4b21, uf4b22]
    exact hS
  · have c2 : ¬ (o.choices.length : Int) = 0 := by omega
    obtain ⟨k, hk, hkl⟩ := rem_at hw.1 (n := o.choices.length) (by omega)
    have hk0 : (0 : Int) ≤ k := by omega
    have hk1 : (k : Int) < o.choices.length := by omega
    have w1 : IntKind.i64.wrap ((k : Int) + 1) = k + 1 := wrap_in (by omega) (by omega)
    have t1 : ((k : Int) + 1).toNat = k + 1 := by omega
    have t0 : (k : Int).toNat = k := by omega
    have tk : List.take o.choices.length (o.choices.map encChoice) = o.choices.map encChoice := List.take_of_length_le (by simp)
    have l1 : (List.take (k + 1) (o.choices.map encChoice)).length = k + 1 := by simp; omega
    have l2 : (List.drop k (o.choices.map encChoice)).length = o.choices.length - k := by simp
    have hrows : List.take (k + 1) (o.choices.map encChoice) ++ List.drop k (o.choices.map encChoice) = (o.choices.take (k + 1) ++ o.choices.drop k).map encChoice := by simp
    have hdup := chs_dup o.choices k (-1) hkl
    generalize o.choices.take (k + 1) ++ o.choices.drop k = dup at hrows hdup
    have hx : checkO ⟨o.name, o.accepts, dup, o.rules⟩ = 1 := by rw [checkO, if_pos hdup]
    have hset := chs_set o.choices k n (-1) hkl ok.chs
    have hset2 := encChoice_set o.choices k n hkl
    generalize o.choices.set k ⟨o.choices[k].ask, n, o.choices[k].whole⟩ = bent at hset hset2
    have e0 : (o.choices.map encChoice).getD k [] = [.int .i64 o.choices[k].ask, .int .i64 o.choices[k].by_, .bool o.choices[k].whole] := by rw [map_at hkl]; rfl
    have hy : checkO ⟨o.name, o.accepts, bent, o.rules⟩ = if n < 0 ∨ n ≥ 5 then 1 else 0 := by
      unfold checkO
      simp only [hset, ok.rls, ok.tys]
      by_cases h : n < 0 ∨ n ≥ 5 <;> simp [h]
    have cx := s20 ⟨o.name, o.accepts, dup, o.rules⟩
    have cy := s20 ⟨o.name, o.accepts, bent, o.rules⟩
    rw [hx] at cx
    rw [hy] at cy
    have hn : n < 0 ∨ (¬ n < 0 ∧ n ≥ 5) ∨ (¬ n < 0 ∧ ¬ n ≥ 5) := by omega
    rcases hn with hn | ⟨hn, hn5⟩ | ⟨hn, hn5⟩
    all_goals first | rw [if_pos (by omega)] at cy | rw [if_neg (by omega)] at cy
    · simp only [c2, ww, hk, hk0, hk1, w1, t1, t0, List.length_map, List.map_take, List.map_drop, e0, tk, l1, l2, hrows, hset2, hn, q_wpLs_eq_1, q_wpLs_eq_2, q_wpLQs_eq_1, q_wpLQs_eq_2, q_wpL_eq_1, q_wpLQ_eq_1, q_putDL_eq_1, q_AOp_dst_eq_1, q_AOp_dst_eq_8, q_AOp_dst_eq_10, q_AOp_dst_eq_32, q_exL_eq_1, q_exL_eq_3, q_exL_eq_4, q_exL_eq_7, q_exL_eq_8, q_exL_eq_9, q_exL_eq_11, q_exL_eq_16, q_exL_eq_21, q_exL_eq_23, q_exL_eq_28, q_exL_eq_30, q_exL_eq_33, q_exLQ_eq_1, q_exLQ_eq_7, q_exLQ_eq_9, q_exLQ_eq_10, q_exLQ_eq_12, q_exLQ_eq_20, q_exLQ_eq_22, q_exLQ_eq_36, q_look_eq_1, q_look_eq_2, q_insT_eq_1, q_insO_eq_1, q_awl_eq_1, q_awl_eq_2, q_awl_eq_3, q_awl_eq_5, q_awl_eq_6, q_awl_eq_10, q_AE_thenL_eq_1, q_AE_thenL_eq_3, q_putK_eq_1, q_vBin_eq_1, q_resV_eq_1, q_binV_eq_1, q_binInt_eq_3, q_cutInt_eq_1, q_cutInt_eq_5, q_cutInt_eq_6, q_cutInt_eq_8, q_vConv_eq_1, q_vFaddr_eq_1, q_vFaddr_eq_2, q_loadO_eq_1, q_isV_eq_1, q_vLoad_eq_1, q_vIaddr_eq_2, q_idxO_eq_1, q_vPick_eq_2, q_vBound_eq_1, q_vBound_eq_2, q_ofRow_eq_1, q_ofRow_eq_2, q_pureRow_eq_1, q_pureRow_eq_2, q_pureRow_eq_3, q_V_cells_eq_1, q_V_cells_eq_2, q_splice_eq_1, q_isVarO_eq_1, q_isArrO_eq_1, q_vRow_eq_1, q_vLits_eq_1, q_bsK_eq_1, q_stVarK_eq_1, q_stArrK_eq_1, q_storeK_eq_1, q_storeK_eq_2, q_srcV_eq_1, q_appK_eq_1, q_appendK_eq_1, q_mapT_eq_1, q_mapT_eq_2, q_mapO_eq_1, q_mapO_eq_2, q_delO_eq_1, q_delO_eq_2, q_freeB_eq_1, q_freeT_eq_1, q_freeT_eq_2, q_freeO_eq_1, q_freeO_eq_2, q_V_noRef_eq_1, q_V_noRef_eq_2, q_K_noRef_eq_1, q_K_noRef_eq_2, q_K_noRef_eq_3, q_K_noRef_eq_8, q_O_noRef_eq_1, q_O_noRef_eq_2, q_V_scrub_eq_1, q_V_scrub_eq_3, q_K_scrub_eq_1, q_K_scrub_eq_2, q_K_scrub_eq_5, q_O_scrub_eq_1, q_O_scrub_eq_2, q_V_toks_eq_1, q_K_toks_eq_5, q_endK_eq_2, q_endL_eq_1, q_endV_eq_1, q_resL_eq_1, q_resL_eq_2, q_resX_eq_1, q_one_eq_1, q_V_nrm_eq_1, q_K_nrm_eq_1, q_K_nrm_eq_3, q_O_nrm_eq_1, q_V_owns_eq_1, q_K_owns_eq_2, q_V_toNew_eq_1, q_K_toNew_eq_1, q_C_norm_eq_4, q_C_norm_eq_5, q_C_norm_eq_6, q_Bool_not_true, q_Bool_not_false, q_Option_map_some, q_Option_map_none, q_List_map_cons, q_List_map_nil, q_List_take_succ_cons, q_List_take_zero, q_List_drop_succ_cons, q_List_drop_zero, q_List_nil_append, q_List_cons_append, q_List_foldl_nil, q_List_replicate_zero, q_List_length_cons, q_List_length_nil, q_List_all_cons, q_List_all_nil, true_and, if_true, if_false, Bool.false_eq_true, false_implies, implies_true, forall_const, true_or, and_self, bne_iff_ne, ne_eq, Bool.and_eq_true, Bool.and_true, Bool.true_and, Bool.or_true, Bool.false_or, List.append_nil, List.nodup_nil, Nat.reduceAdd, Nat.reduceEqDiff, Nat.reduceLeDiff, Nat.reduceBEq, Nat.succ_ne_self, Nat.zero_add, Int.toNat_natCast, Int.toNat_zero, Nat.le_refl, q_learn_eq_1, not_false_eq_true, q_guardP_eq_1, q_guardP_eq_2, q_condK_eq_1, q_condB_eq_1, q_exK_eq_1, condB_beq, decide_true, r_vLen_lst, r_vSlice_lst, r_cutS2, r_srcV_lst, norm_lst, normRows_Ch, normRows_R, List.length_map, lookT_here, lookT_next, Int.reduceLE, lookO_here, lookO_next, List.not_mem_nil, implies_true, uf4r1, uf4b2, uf4r3, uf4b4, uf4r5, uf4b6, uf4r7, uf4b8, uf4r9, uf4b10, uf4r11, uf4b12, uf4r13, uf4b14, uf4r15, uf4b16, uf4r17, uf4b18, uf4b19, uf4r20, uf4b21, uf4b22]
      refine ⟨by omega, by omega, by omega, by omega, by omega, by omega, by omega, by omega, ?_⟩
      refine call_f 97 (by simp [look, lookT]) (by simp [V.hard, V.toks, Abs.K.toks]) (by simp [lookO, plainO]) ?_
      simp only [q_look_eq_1, q_pureRow_eq_1, q_pureRow_eq_2, q_mapT_eq_1, q_mapT_eq_2, q_mapO_eq_1, q_mapO_eq_2, q_delO_eq_1, q_delO_eq_2, q_Option_map_some, q_List_map_cons, q_List_map_nil, if_true, if_false, or_false, Nat.reduceEqDiff, Nat.reduceBEq, lookT_here, lookT_next, lookO_here, lookO_next, z_V_k, z_V_agg, z_V_undef, z_K_c, z_K_dead, z_O_var, z_O_arr, z_frzT, z_frzO, z_agF1, z_V_agk, z_K_own_arr, z_K_elem_arr, z_K_ptr_arr]
      refine call_s1 cx ?_
      simp only [q_wpLs_eq_2, q_wpL_eq_1, q_AOp_dst_eq_8, q_AOp_dst_eq_10, q_AOp_dst_eq_32, q_exL_eq_1, q_exL_eq_3, q_exL_eq_8, q_exL_eq_11, q_exL_eq_28, q_look_eq_1, q_look_eq_2, q_insT_eq_1, q_putK_eq_1, q_vBin_eq_1, q_resV_eq_1, q_binV_eq_1, q_binInt_eq_3, q_cutInt_eq_6, q_loadO_eq_1, q_isV_eq_1, q_vLoad_eq_1, q_vPick_eq_1, q_ofRow_eq_2, q_pureRow_eq_2, q_pureRow_eq_3, q_Bool_not_true, q_Option_map_none, q_List_map_cons, q_List_map_nil, q_List_take_succ_cons, q_List_take_zero, q_List_drop_zero, q_List_length_cons, q_List_length_nil, true_and, if_true, BEq.rfl, Nat.reduceAdd, Nat.reduceBEq, Nat.zero_add, Nat.le_refl, q_guardP_eq_1, q_condB_eq_1, q_exK_eq_1, lookT_here, lookT_next, lookO_here, lookO_next]
      refine call_f 111 (by simp [look, lookT]) (by simp [V.hard, V.toks, Abs.K.toks]) (by simp [lookO, plainO]) ?_
      simp only [q_look_eq_1, q_pureRow_eq_1, q_pureRow_eq_2, q_mapT_eq_1, q_mapT_eq_2, q_mapO_eq_1, q_mapO_eq_2, q_delO_eq_1, q_delO_eq_2, q_Option_map_some, q_List_map_cons, q_List_map_nil, if_true, if_false, or_false, Nat.reduceEqDiff, Nat.reduceBEq, lookT_here, lookT_next, lookO_here, z_V_k, z_V_agg, z_V_undef, z_K_c, z_K_dead, z_O_var, z_frzT, z_frzO, z_agF1, z_V_agk, z_K_own_arr, z_K_elem_arr, z_K_ptr_arr]
      refine call_s1 cy ?_
      simp only [q_wpLs_eq_1, q_wpLs_eq_2, q_wpL_eq_1, q_AOp_dst_eq_1, q_AOp_dst_eq_10, q_AOp_dst_eq_11, q_exL_eq_1, q_exL_eq_3, q_exL_eq_11, q_exL_eq_12, q_look_eq_1, q_look_eq_2, q_insT_eq_1, q_awl_eq_10, q_putK_eq_1, q_vBin_eq_1, q_resV_eq_1, q_binV_eq_1, q_binInt_eq_3, q_cutInt_eq_6, q_vBinB_eq_1, q_vPick_eq_1, q_mapT_eq_1, q_mapT_eq_2, q_mapO_eq_1, q_mapO_eq_2, q_endK_eq_2, q_endL_eq_1, q_endV_eq_1, q_resL_eq_1, q_resL_eq_2, q_resX_eq_1, q_one_eq_1, q_V_nrm_eq_1, q_V_nrm_eq_2, q_V_nrm_eq_5, q_K_nrm_eq_1, q_K_nrm_eq_2, q_K_nrm_eq_3, q_O_nrm_eq_1, q_V_owns_eq_1, q_K_owns_eq_2, q_V_toNew_eq_1, q_K_toNew_eq_1, q_C_norm_eq_1, q_C_norm_eq_4, q_C_norm_eq_5, q_C_norm_eq_6, q_C_normRow_eq_1, q_C_normRow_eq_2, q_C_normRows_eq_1, q_Bool_not_true, q_List_map_cons, q_List_map_nil, q_List_isEmpty_nil, true_and, if_true, if_false, Bool.false_eq_true, and_self, BEq.rfl, List.nodup_nil, Nat.reduceBEq, q_guardP_eq_1, q_condB_eq_1, q_exK_eq_1, norm_lst, normRows_Ch, normRows_R, lookT_here, lookT_next]
      exact hS
    · simp only [c2, ww, hk, hk0, hk1, w1, t1, t0, List.length_map, List.map_take, List.map_drop, e0, tk, l1, l2, hrows, hset2, hn, hn5, q_wpLs_eq_1, q_wpLs_eq_2, q_wpLQs_eq_1, q_wpLQs_eq_2, q_wpL_eq_1, q_wpLQ_eq_1, q_AOp_dst_eq_1, q_AOp_dst_eq_8, q_AOp_dst_eq_10, q_AOp_dst_eq_32, q_exL_eq_1, q_exL_eq_3, q_exL_eq_4, q_exL_eq_7, q_exL_eq_8, q_exL_eq_9, q_exL_eq_11, q_exL_eq_16, q_exL_eq_21, q_exL_eq_23, q_exL_eq_28, q_exL_eq_30, q_exL_eq_33, q_exLQ_eq_1, q_exLQ_eq_7, q_exLQ_eq_9, q_exLQ_eq_10, q_exLQ_eq_12, q_exLQ_eq_20, q_exLQ_eq_22, q_exLQ_eq_36, q_look_eq_1, q_look_eq_2, q_insT_eq_1, q_insO_eq_1, q_awl_eq_1, q_awl_eq_2, q_awl_eq_3, q_awl_eq_5, q_awl_eq_6, q_awl_eq_10, q_AE_thenL_eq_1, q_AE_thenL_eq_3, q_putK_eq_1, q_vBin_eq_1, q_resV_eq_1, q_binV_eq_1, q_binInt_eq_3, q_cutInt_eq_1, q_cutInt_eq_5, q_cutInt_eq_6, q_cutInt_eq_8, q_cutInt_eq_11, q_vConv_eq_1, q_vFaddr_eq_1, q_vFaddr_eq_2, q_loadO_eq_1, q_isV_eq_1, q_vLoad_eq_1, q_vIaddr_eq_2, q_idxO_eq_1, q_vPick_eq_1, q_vBound_eq_1, q_vBound_eq_2, q_ofRow_eq_1, q_ofRow_eq_2, q_pureRow_eq_1, q_pureRow_eq_2, q_pureRow_eq_3, q_V_cells_eq_1, q_V_cells_eq_2, q_splice_eq_1, q_isVarO_eq_1, q_isArrO_eq_1, q_vRow_eq_1, q_vLits_eq_1, q_bsK_eq_1, q_stVarK_eq_1, q_stArrK_eq_1, q_storeK_eq_1, q_storeK_eq_2, q_srcV_eq_1, q_appK_eq_1, q_appendK_eq_1, q_mapT_eq_1, q_mapT_eq_2, q_mapO_eq_1, q_mapO_eq_2, q_delO_eq_1, q_delO_eq_2, q_freeB_eq_1, q_freeT_eq_1, q_freeT_eq_2, q_freeO_eq_1, q_freeO_eq_2, q_V_noRef_eq_1, q_V_noRef_eq_2, q_K_noRef_eq_1, q_K_noRef_eq_2, q_K_noRef_eq_3, q_K_noRef_eq_8, q_O_noRef_eq_1, q_O_noRef_eq_2, q_V_scrub_eq_1, q_V_scrub_eq_3, q_K_scrub_eq_1, q_K_scrub_eq_2, q_K_scrub_eq_5, q_O_scrub_eq_1, q_O_scrub_eq_2, q_V_toks_eq_1, q_K_toks_eq_5, q_endK_eq_2, q_endL_eq_1, q_endV_eq_1, q_resL_eq_1, q_resL_eq_2, q_resX_eq_1, q_one_eq_1, q_V_nrm_eq_1, q_K_nrm_eq_1, q_K_nrm_eq_3, q_O_nrm_eq_1, q_V_owns_eq_1, q_K_owns_eq_2, q_V_toNew_eq_1, q_K_toNew_eq_1, q_C_norm_eq_4, q_C_norm_eq_5, q_C_norm_eq_6, q_Bool_not_true, q_Bool_not_false, q_Option_map_some, q_Option_map_none, q_List_map_cons, q_List_map_nil, q_List_take_succ_cons, q_List_take_zero, q_List_drop_succ_cons, q_List_drop_zero, q_List_nil_append, q_List_cons_append, q_List_foldl_nil, q_List_replicate_zero, q_List_length_cons, q_List_length_nil, q_List_all_cons, q_List_all_nil, true_and, if_true, if_false, Bool.false_eq_true, false_implies, implies_true, forall_const, true_or, and_self, bne_iff_ne, ne_eq, Bool.and_eq_true, Bool.and_true, Bool.true_and, Bool.or_true, Bool.false_or, List.append_nil, List.nodup_nil, Nat.reduceAdd, Nat.reduceEqDiff, Nat.reduceLeDiff, Nat.reduceBEq, Nat.succ_ne_self, Nat.zero_add, Int.toNat_natCast, Int.toNat_zero, Nat.le_refl, q_learn_eq_1, not_false_eq_true, q_guardP_eq_1, q_guardP_eq_2, q_condK_eq_1, q_condB_eq_1, q_condB_eq_2, q_exK_eq_1, condB_beq, decide_true, decide_false, r_vLen_lst, r_vSlice_lst, r_cutS2, r_srcV_lst, norm_lst, normRows_Ch, normRows_R, List.length_map, lookT_here, lookT_next, Int.reduceLE, lookO_here, lookO_next, List.not_mem_nil, implies_true, uf4r1, uf4b2, uf4r3, uf4b4, uf4r5, uf4b6, uf4r7, uf4b8, uf4r9, uf4b10, uf4r11, uf4b12, uf4r13, uf4b14, uf4r15, uf4b16, uf4r17, uf4b18, uf4b19, uf4r20, uf4b21, uf4b22]
      refine ⟨by omega, by omega, by omega, by omega, by omega, by omega, by omega, by omega, ?_⟩
      refine call_f 97 (by simp [look, lookT]) (by simp [V.hard, V.toks, Abs.K.toks]) (by simp [lookO, plainO]) ?_
      simp only [q_look_eq_1, q_pureRow_eq_1, q_pureRow_eq_2, q_mapT_eq_1, q_mapT_eq_2, q_mapO_eq_1, q_mapO_eq_2, q_delO_eq_1, q_delO_eq_2, q_Option_map_some, q_List_map_cons, q_List_map_nil, if_true, if_false, or_false, Nat.reduceEqDiff, Nat.reduceBEq, lookT_here, lookT_next, lookO_here, lookO_next, z_V_k, z_V_agg, z_K_c, z_K_dead, z_O_var, z_O_arr, z_frzT, z_frzO, z_agF1, z_V_agk, z_K_own_arr, z_K_elem_arr, z_K_ptr_arr]
      refine call_s1 cx ?_
      simp only [q_wpLs_eq_2, q_wpL_eq_1, q_AOp_dst_eq_8, q_AOp_dst_eq_10, q_AOp_dst_eq_32, q_exL_eq_1, q_exL_eq_3, q_exL_eq_8, q_exL_eq_11, q_exL_eq_28, q_look_eq_1, q_look_eq_2, q_insT_eq_1, q_putK_eq_1, q_vBin_eq_1, q_resV_eq_1, q_binV_eq_1, q_binInt_eq_3, q_cutInt_eq_6, q_loadO_eq_1, q_isV_eq_1, q_vLoad_eq_1, q_vPick_eq_1, q_ofRow_eq_2, q_pureRow_eq_2, q_pureRow_eq_3, q_Bool_not_true, q_Option_map_none, q_List_map_cons, q_List_map_nil, q_List_take_succ_cons, q_List_take_zero, q_List_drop_zero, q_List_length_cons, q_List_length_nil, true_and, if_true, BEq.rfl, Nat.reduceAdd, Nat.reduceBEq, Nat.zero_add, Nat.le_refl, q_guardP_eq_1, q_condB_eq_1, q_exK_eq_1, lookT_here, lookT_next, lookO_here, lookO_next]
      refine call_f 111 (by simp [look, lookT]) (by simp [V.hard, V.toks, Abs.K.toks]) (by simp [lookO, plainO]) ?_
      simp only [q_look_eq_1, q_pureRow_eq_1, q_pureRow_eq_2, q_mapT_eq_1, q_mapT_eq_2, q_mapO_eq_1, q_mapO_eq_2, q_delO_eq_1, q_delO_eq_2, q_Option_map_some, q_List_map_cons, q_List_map_nil, if_true, if_false, or_false, Nat.reduceEqDiff, Nat.reduceBEq, lookT_here, lookT_next, lookO_here, z_V_k, z_V_agg, z_K_c, z_K_dead, z_O_var, z_frzT, z_frzO, z_agF1, z_V_agk, z_K_own_arr, z_K_elem_arr, z_K_ptr_arr]
      refine call_s1 cy ?_
      simp only [q_wpLs_eq_1, q_wpLs_eq_2, q_wpL_eq_1, q_AOp_dst_eq_1, q_AOp_dst_eq_10, q_AOp_dst_eq_11, q_exL_eq_1, q_exL_eq_3, q_exL_eq_11, q_exL_eq_12, q_look_eq_1, q_look_eq_2, q_insT_eq_1, q_awl_eq_10, q_putK_eq_1, q_vBin_eq_1, q_resV_eq_1, q_binV_eq_1, q_binInt_eq_3, q_cutInt_eq_6, q_vBinB_eq_1, q_vPick_eq_1, q_mapT_eq_1, q_mapT_eq_2, q_mapO_eq_1, q_mapO_eq_2, q_endK_eq_2, q_endL_eq_1, q_endV_eq_1, q_resL_eq_1, q_resL_eq_2, q_resX_eq_1, q_one_eq_1, q_V_nrm_eq_1, q_V_nrm_eq_2, q_K_nrm_eq_1, q_K_nrm_eq_2, q_K_nrm_eq_3, q_O_nrm_eq_1, q_V_owns_eq_1, q_K_owns_eq_2, q_V_toNew_eq_1, q_K_toNew_eq_1, q_C_norm_eq_1, q_C_norm_eq_4, q_C_norm_eq_5, q_C_norm_eq_6, q_C_normRow_eq_1, q_C_normRow_eq_2, q_C_normRows_eq_1, q_Bool_not_true, q_List_map_cons, q_List_map_nil, q_List_isEmpty_nil, true_and, if_true, if_false, Bool.false_eq_true, and_self, BEq.rfl, List.nodup_nil, Nat.reduceBEq, q_guardP_eq_1, q_condB_eq_1, q_exK_eq_1, norm_lst, normRows_Ch, normRows_R, lookT_here, lookT_next]
      exact hS
    · simp only [c2, ww, hk, hk0, hk1, w1, t1, t0, List.length_map, List.map_take, List.map_drop, e0, tk, l1, l2, hrows, hset2, hn, hn5, q_wpLs_eq_1, q_wpLs_eq_2, q_wpLQs_eq_1, q_wpLQs_eq_2, q_wpL_eq_1, q_wpLQ_eq_1, q_AOp_dst_eq_1, q_AOp_dst_eq_8, q_AOp_dst_eq_10, q_AOp_dst_eq_32, q_exL_eq_1, q_exL_eq_3, q_exL_eq_4, q_exL_eq_7, q_exL_eq_8, q_exL_eq_9, q_exL_eq_11, q_exL_eq_16, q_exL_eq_21, q_exL_eq_23, q_exL_eq_28, q_exL_eq_30, q_exL_eq_33, q_exLQ_eq_1, q_exLQ_eq_7, q_exLQ_eq_9, q_exLQ_eq_10, q_exLQ_eq_12, q_exLQ_eq_20, q_exLQ_eq_22, q_exLQ_eq_36, q_look_eq_1, q_look_eq_2, q_insT_eq_1, q_insO_eq_1, q_awl_eq_1, q_awl_eq_2, q_awl_eq_3, q_awl_eq_5, q_awl_eq_6, q_awl_eq_10, q_AE_thenL_eq_1, q_AE_thenL_eq_3, q_putK_eq_1, q_vBin_eq_1, q_resV_eq_1, q_binV_eq_1, q_binInt_eq_3, q_cutInt_eq_1, q_cutInt_eq_5, q_cutInt_eq_6, q_cutInt_eq_8, q_cutInt_eq_11, q_vConv_eq_1, q_vFaddr_eq_1, q_vFaddr_eq_2, q_loadO_eq_1, q_isV_eq_1, q_vLoad_eq_1, q_vIaddr_eq_2, q_idxO_eq_1, q_vPick_eq_1, q_vBound_eq_1, q_vBound_eq_2, q_ofRow_eq_1, q_ofRow_eq_2, q_pureRow_eq_1, q_pureRow_eq_2, q_pureRow_eq_3, q_V_cells_eq_1, q_V_cells_eq_2, q_splice_eq_1, q_isVarO_eq_1, q_isArrO_eq_1, q_vRow_eq_1, q_vLits_eq_1, q_bsK_eq_1, q_stVarK_eq_1, q_stArrK_eq_1, q_storeK_eq_1, q_storeK_eq_2, q_srcV_eq_1, q_appK_eq_1, q_appendK_eq_1, q_mapT_eq_1, q_mapT_eq_2, q_mapO_eq_1, q_mapO_eq_2, q_delO_eq_1, q_delO_eq_2, q_freeB_eq_1, q_freeT_eq_1, q_freeT_eq_2, q_freeO_eq_1, q_freeO_eq_2, q_V_noRef_eq_1, q_V_noRef_eq_2, q_K_noRef_eq_1, q_K_noRef_eq_2, q_K_noRef_eq_3, q_K_noRef_eq_8, q_O_noRef_eq_1, q_O_noRef_eq_2, q_V_scrub_eq_1, q_V_scrub_eq_3, q_K_scrub_eq_1, q_K_scrub_eq_2, q_K_scrub_eq_5, q_O_scrub_eq_1, q_O_scrub_eq_2, q_V_toks_eq_1, q_K_toks_eq_5, q_endK_eq_2, q_endL_eq_1, q_endV_eq_1, q_resL_eq_1, q_resL_eq_2, q_resX_eq_1, q_one_eq_1, q_V_nrm_eq_1, q_K_nrm_eq_1, q_K_nrm_eq_3, q_O_nrm_eq_1, q_V_owns_eq_1, q_K_owns_eq_2, q_V_toNew_eq_1, q_K_toNew_eq_1, q_C_norm_eq_4, q_C_norm_eq_5, q_C_norm_eq_6, q_Bool_not_true, q_Bool_not_false, q_Option_map_some, q_Option_map_none, q_List_map_cons, q_List_map_nil, q_List_take_succ_cons, q_List_take_zero, q_List_drop_succ_cons, q_List_drop_zero, q_List_nil_append, q_List_cons_append, q_List_foldl_nil, q_List_replicate_zero, q_List_length_cons, q_List_length_nil, q_List_all_cons, q_List_all_nil, true_and, if_true, if_false, Bool.false_eq_true, false_implies, implies_true, forall_const, true_or, and_self, bne_iff_ne, ne_eq, Bool.and_eq_true, Bool.and_true, Bool.true_and, Bool.or_true, Bool.false_or, List.append_nil, List.nodup_nil, Nat.reduceAdd, Nat.reduceEqDiff, Nat.reduceLeDiff, Nat.reduceBEq, Nat.succ_ne_self, Nat.zero_add, Int.toNat_natCast, Int.toNat_zero, Nat.le_refl, q_learn_eq_1, not_false_eq_true, q_guardP_eq_1, q_guardP_eq_2, q_condK_eq_1, q_condB_eq_1, q_condB_eq_2, q_exK_eq_1, condB_beq, decide_false, r_vLen_lst, r_vSlice_lst, r_cutS2, r_srcV_lst, norm_lst, normRows_Ch, normRows_R, List.length_map, lookT_here, lookT_next, Int.reduceLE, lookO_here, lookO_next, List.not_mem_nil, implies_true, uf4r1, uf4b2, uf4r3, uf4b4, uf4r5, uf4b6, uf4r7, uf4b8, uf4r9, uf4b10, uf4r11, uf4b12, uf4r13, uf4b14, uf4r15, uf4b16, uf4r17, uf4b18, uf4b19, uf4r20, uf4b21, uf4b22]
      refine ⟨by omega, by omega, by omega, by omega, by omega, by omega, by omega, by omega, ?_⟩
      refine call_f 97 (by simp [look, lookT]) (by simp [V.hard, V.toks, Abs.K.toks]) (by simp [lookO, plainO]) ?_
      simp only [q_look_eq_1, q_pureRow_eq_1, q_pureRow_eq_2, q_mapT_eq_1, q_mapT_eq_2, q_mapO_eq_1, q_mapO_eq_2, q_delO_eq_1, q_delO_eq_2, q_Option_map_some, q_List_map_cons, q_List_map_nil, if_true, if_false, or_false, Nat.reduceEqDiff, Nat.reduceBEq, lookT_here, lookT_next, lookO_here, lookO_next, z_V_k, z_V_agg, z_K_c, z_K_dead, z_O_var, z_O_arr, z_frzT, z_frzO, z_agF1, z_V_agk, z_K_own_arr, z_K_elem_arr, z_K_ptr_arr]
      refine call_s1 cx ?_
      simp only [q_wpLs_eq_2, q_wpL_eq_1, q_AOp_dst_eq_8, q_AOp_dst_eq_10, q_AOp_dst_eq_32, q_exL_eq_1, q_exL_eq_3, q_exL_eq_8, q_exL_eq_11, q_exL_eq_28, q_look_eq_1, q_look_eq_2, q_insT_eq_1, q_putK_eq_1, q_vBin_eq_1, q_resV_eq_1, q_binV_eq_1, q_binInt_eq_3, q_cutInt_eq_6, q_loadO_eq_1, q_isV_eq_1, q_vLoad_eq_1, q_vPick_eq_1, q_ofRow_eq_2, q_pureRow_eq_2, q_pureRow_eq_3, q_Bool_not_true, q_Option_map_none, q_List_map_cons, q_List_map_nil, q_List_take_succ_cons, q_List_take_zero, q_List_drop_zero, q_List_length_cons, q_List_length_nil, true_and, if_true, BEq.rfl, Nat.reduceAdd, Nat.reduceBEq, Nat.zero_add, Nat.le_refl, q_guardP_eq_1, q_condB_eq_1, q_exK_eq_1, lookT_here, lookT_next, lookO_here, lookO_next]
      refine call_f 111 (by simp [look, lookT]) (by simp [V.hard, V.toks, Abs.K.toks]) (by simp [lookO, plainO]) ?_
      simp only [q_look_eq_1, q_pureRow_eq_1, q_pureRow_eq_2, q_mapT_eq_1, q_mapT_eq_2, q_mapO_eq_1, q_mapO_eq_2, q_delO_eq_1, q_delO_eq_2, q_Option_map_some, q_List_map_cons, q_List_map_nil, if_true, if_false, or_false, Nat.reduceEqDiff, Nat.reduceBEq, lookT_here, lookT_next, lookO_here, z_V_k, z_V_agg, z_K_c, z_K_dead, z_O_var, z_frzT, z_frzO, z_agF1, z_V_agk, z_K_own_arr, z_K_elem_arr, z_K_ptr_arr]
      refine call_s1 cy ?_
      simp only [q_wpLs_eq_1, q_wpLs_eq_2, q_wpL_eq_1, q_AOp_dst_eq_1, q_AOp_dst_eq_10, q_AOp_dst_eq_11, q_exL_eq_1, q_exL_eq_3, q_exL_eq_11, q_exL_eq_12, q_look_eq_1, q_look_eq_2, q_insT_eq_1, q_awl_eq_10, q_putK_eq_1, q_vBin_eq_1, q_resV_eq_1, q_binV_eq_1, q_binInt_eq_3, q_cutInt_eq_6, q_vBinB_eq_1, q_vPick_eq_1, q_mapT_eq_1, q_mapT_eq_2, q_mapO_eq_1, q_mapO_eq_2, q_endK_eq_2, q_endL_eq_1, q_endV_eq_1, q_resL_eq_1, q_resL_eq_2, q_resX_eq_1, q_one_eq_1, q_V_nrm_eq_1, q_V_nrm_eq_2, q_K_nrm_eq_1, q_K_nrm_eq_2, q_K_nrm_eq_3, q_O_nrm_eq_1, q_V_owns_eq_1, q_K_owns_eq_2, q_V_toNew_eq_1, q_K_toNew_eq_1, q_C_norm_eq_1, q_C_norm_eq_4, q_C_norm_eq_5, q_C_norm_eq_6, q_C_normRow_eq_1, q_C_normRow_eq_2, q_C_normRows_eq_1, q_Bool_not_true, q_List_map_cons, q_List_map_nil, q_List_isEmpty_nil, true_and, if_true, if_false, Bool.false_eq_true, and_self, BEq.rfl, List.nodup_nil, Nat.reduceBEq, q_guardP_eq_1, q_condB_eq_1, q_exK_eq_1, norm_lst, normRows_Ch, normRows_R, lookT_here, lookT_next, Int.reduceBEq]
      exact hS
theorem k4 (o : Order) (w n : Int) (hw : 0 ≤ w ∧ w < 256) : Spec Try.prog 4 [.agg (encOrder o), .int .u8 w, .int .i64 n] (fun r => r = .bool true) := by
  refine Spec.of_len hf4 fun hlen => ?_
  have hl := len_rules (o := o) List.mem_cons_self hlen
  clear hlen
  obtain ⟨hl1, hl2⟩ := hl
  refine Spec.of_awlS hf4 okf4 (by simp) fun S hS => ?_
  simp only [encOrder, q_wpLs_eq_1, q_wpLs_eq_2, q_wpL_eq_1, q_exL_eq_1, q_exL_eq_5, q_exL_eq_28, q_look_eq_1, q_look_eq_2, q_insT_eq_1, q_insO_eq_1, q_awl_eq_2, q_awl_eq_5, q_AE_thenL_eq_1, q_initT_eq_1, q_initT_eq_2, q_boxK_eq_1, q_freeB_eq_1, q_freeT_eq_1, q_freeT_eq_2, q_freeO_eq_1, q_V_noRef_eq_1, q_V_noRef_eq_2, q_K_noRef_eq_1, q_List_map_cons, q_List_map_nil, true_and, Bool.and_true, Bool.or_true, Nat.reduceAdd, Nat.reduceBEq, Nat.zero_add, lookT_here, uf4, uf4r61, uf4b62, uf4r63, uf4b64]
  refine call_s s14 ?_
  simp only [q_wpLs_eq_1, q_wpLs_eq_2, q_wpL_eq_1, q_exL_eq_1, q_exL_eq_8, q_exL_eq_28, q_look_eq_1, q_insT_eq_1, q_awl_eq_2, q_awl_eq_5, q_AE_thenL_eq_1, q_putK_eq_1, q_loadO_eq_1, q_isV_eq_1, q_vLoad_eq_1, q_ofRow_eq_2, q_pureRow_eq_1, q_pureRow_eq_2, q_Option_map_some, q_List_map_cons, q_List_map_nil, q_List_take_succ_cons, q_List_take_zero, q_List_drop_zero, q_List_length_cons, q_List_length_nil, true_and, if_true, Nat.reduceAdd, Nat.reduceBEq, Nat.zero_add, Nat.le_refl, lookT_here, lookT_next, lookO_here, uf4r58, uf4b59, uf4b60]
  refine call_s (s15 o) ?_
  cases h1 : fewO o
  · simp only [h1, q_wpLs_eq_1, q_wpLs_eq_2, q_wpL_eq_1, q_putDL_eq_1, q_AOp_dst_eq_8, q_AOp_dst_eq_10, q_AOp_dst_eq_32, q_exL_eq_1, q_exL_eq_3, q_exL_eq_15, q_look_eq_1, q_look_eq_2, q_insT_eq_1, q_awl_eq_2, q_awl_eq_5, q_awl_eq_6, q_awl_eq_10, q_AE_thenL_eq_1, q_AE_thenL_eq_3, q_putK_eq_1, q_vUn_eq_1, q_unV_eq_2, q_mapC_eq_1, q_vPick_eq_2, q_mapT_eq_1, q_mapT_eq_2, q_mapO_eq_1, q_mapO_eq_2, q_endK_eq_2, q_endL_eq_1, q_endV_eq_1, q_resL_eq_1, q_resL_eq_2, q_resX_eq_1, q_one_eq_1, q_V_nrm_eq_1, q_V_nrm_eq_2, q_V_nrm_eq_5, q_K_nrm_eq_1, q_K_nrm_eq_3, q_O_nrm_eq_1, q_V_owns_eq_1, q_K_owns_eq_2, q_V_toNew_eq_1, q_K_toNew_eq_1, q_C_norm_eq_4, q_C_norm_eq_5, q_C_norm_eq_6, q_C_normRow_eq_1, q_C_normRow_eq_2, q_Bool_not_false, q_List_map_cons, q_List_map_nil, true_and, and_self, List.nodup_nil, Nat.reduceBEq, q_learn_eq_1, q_guardP_eq_2, q_condK_eq_1, q_condB_eq_1, norm_lst, normRows_Ch, normRows_R, lookT_here, lookT_next, uf4r55, uf4b56, uf4b57]
    exact hS
  simp only [h1, q_wpLs_eq_2, q_wpL_eq_1, q_AOp_dst_eq_8, q_AOp_dst_eq_32, q_exL_eq_1, q_exL_eq_8, q_exL_eq_15, q_exL_eq_28, q_look_eq_1, q_insT_eq_1, q_putK_eq_1, q_vUn_eq_1, q_unV_eq_2, q_mapC_eq_1, q_loadO_eq_1, q_isV_eq_1, q_vLoad_eq_1, q_ofRow_eq_2, q_pureRow_eq_1, q_pureRow_eq_2, q_Bool_not_true, q_Bool_not_false, q_Option_map_some, q_List_map_cons, q_List_map_nil, q_List_take_succ_cons, q_List_take_zero, q_List_drop_zero, q_List_length_cons, q_List_length_nil, true_and, if_true, Nat.reduceAdd, Nat.reduceBEq, Nat.zero_add, Nat.le_refl, q_guardP_eq_2, q_condB_eq_2, q_exK_eq_1, lookT_here, lookT_next, lookO_here]
  refine call_s (s20 o) ?_
  by_cases hc' : ¬ checkO o = 0
  · simp only [hc', q_wpLs_eq_1, q_wpLs_eq_2, q_wpL_eq_1, q_AOp_dst_eq_10, q_exL_eq_1, q_exL_eq_3, q_exL_eq_8, q_exL_eq_11, q_exL_eq_16, q_exL_eq_21, q_exL_eq_23, q_exL_eq_28, q_exL_eq_30, q_look_eq_1, q_look_eq_2, q_insT_eq_1, q_awl_eq_1, q_awl_eq_2, q_awl_eq_5, q_awl_eq_6, q_awl_eq_10, q_awl_eq_11, q_AE_thenL_eq_1, q_AE_thenL_eq_3, q_keepT_eq_1, q_keepT_eq_2, q_keepO_eq_1, q_keepO_eq_2, q_addO_eq_1, q_putK_eq_1, q_vBin_eq_1, q_resV_eq_1, q_binV_eq_1, q_binInt_eq_3, q_cutInt_eq_5, q_cutInt_eq_7, q_cutInt_eq_10, q_vConv_eq_1, q_vFaddr_eq_1, q_vFaddr_eq_3, q_partV_eq_2, q_loadO_eq_1, q_isV_eq_1, q_vLoad_eq_1, q_vLoad_eq_2, q_vPick_eq_1, q_ofRow_eq_1, q_pureRow_eq_1, q_pureRow_eq_2, q_isVarO_eq_1, q_mapT_eq_1, q_mapT_eq_2, q_mapO_eq_1, q_mapO_eq_2, q_endK_eq_2, q_endL_eq_1, q_endV_eq_1, q_resL_eq_1, q_resL_eq_2, q_resX_eq_1, q_one_eq_1, q_V_nrm_eq_1, q_V_nrm_eq_2, q_K_nrm_eq_1, q_K_nrm_eq_3, q_O_nrm_eq_1, q_V_owns_eq_1, q_K_owns_eq_2, q_V_toNew_eq_1, q_K_toNew_eq_1, q_C_norm_eq_4, q_C_norm_eq_5, q_C_norm_eq_6, q_C_normRow_eq_1, q_C_normRow_eq_2, q_Bool_not_false, q_Option_map_some, q_List_map_cons, q_List_map_nil, q_List_take_succ_cons, q_List_take_zero, q_List_drop_succ_cons, q_List_drop_zero, q_List_length_cons, q_List_length_nil, true_and, and_true, if_true, if_false, Bool.false_eq_true, false_implies, forall_const, and_self, ne_eq, List.nodup_nil, Nat.reduceAdd, Nat.reduceLeDiff, Nat.reduceBEq, Nat.zero_add, Nat.add_zero, Nat.le_refl, q_learn_eq_1, not_false_eq_true, q_guardP_eq_2, q_condK_eq_1, q_condB_eq_2, q_exK_eq_1, condB_decide, condB_bne, r_vLen_lst, r_vIaddr_lst, norm_lst, normRows_Ch, normRows_R, List.length_map, lookT_here, lookT_next, lookO_here, uf4r47, uf4b48, uf4r49, uf4b50, uf4b51, uf4r52, uf4b53, uf4b54, uf4r55, uf4b56, uf4b57]
    exact hS
  have hc : checkO o = 0 := Decidable.not_not.1 hc'
  have ok := checkO_ok hc
  have ww : IntKind.i64.wrap w = w := wrap_in (by omega) (by omega)
  have h60 : o.rules.length ≤ 60 ∧ o.choices.length ≤ 60 := by
    unfold fewO at h1
    split at h1
    · simp at h1
    · omega
  have hrest := k4rest o w n hw h60.2 ok S hS
  by_cases hr : o.rules.length = 0
  · have c1 : ¬ (o.rules.length : Int) > 0 := by omega
    simp only [hc, c1, List.length_map, q_wpLs_eq_1, q_wpLs_eq_2, q_wpL_eq_1, q_AOp_dst_eq_10, q_exL_eq_3, q_exL_eq_8, q_exL_eq_11, q_exL_eq_21, q_exL_eq_30, q_look_eq_1, q_look_eq_2, q_insT_eq_1, q_awl_eq_1, q_awl_eq_2, q_awl_eq_5, q_awl_eq_6, q_awl_eq_11, q_AE_thenL_eq_1, q_keepT_eq_1, q_keepT_eq_2, q_keepO_eq_1, q_keepO_eq_2, q_addO_eq_1, q_putK_eq_1, q_vBin_eq_1, q_resV_eq_1, q_binV_eq_1, q_binInt_eq_3, q_cutInt_eq_7, q_cutInt_eq_10, q_vFaddr_eq_1, q_loadO_eq_1, q_isV_eq_1, q_vLoad_eq_1, q_vPick_eq_1, q_ofRow_eq_1, q_pureRow_eq_1, q_pureRow_eq_2, q_isVarO_eq_1, q_Bool_not_false, q_Option_map_some, q_List_take_succ_cons, q_List_take_zero, q_List_drop_succ_cons, q_List_drop_zero, q_List_length_cons, q_List_length_nil, true_and, if_true, if_false, Bool.false_eq_true, Nat.reduceAdd, Nat.reduceBEq, Nat.zero_add, Nat.le_refl, q_learn_eq_1, q_guardP_eq_2, q_condK_eq_1, q_condB_eq_2, q_exK_eq_1, decide_false, r_vLen_lst, List.length_map, lookT_here, lookT_next, Int.reduceBNe, lookO_here, uf4b51, uf4r52, uf4b53, uf4b54, uf4b57]
    exact hrest
  · have c1 : (o.rules.length : Int) > 0 := by omega
    have c2 : ¬ (o.rules.length : Int) = 0 := by omega
    obtain ⟨k, hk, hkl⟩ := rem_at hw.1 (n := o.rules.length) (by omega)
    have hk0 : (0 : Int) ≤ k := by omega
    have hk1 : (k : Int) < o.rules.length := by omega
    have w1 : IntKind.i64.wrap ((k : Int) + 1) = k + 1 := wrap_in (by omega) (by omega)
    have t1 : ((k : Int) + 1).toNat = k + 1 := by omega
    have t0 : (k : Int).toNat = k := by omega
    simp only [hc, c1, c2, ww, hk, hk0, hk1, t0, List.length_map, map_at hkl, q_wpLs_eq_1, q_wpLs_eq_2, q_wpL_eq_1, q_AOp_dst_eq_10, q_exL_eq_1, q_exL_eq_3, q_exL_eq_8, q_exL_eq_11, q_exL_eq_16, q_exL_eq_21, q_exL_eq_23, q_exL_eq_28, q_exL_eq_30, q_look_eq_1, q_look_eq_2, q_insT_eq_1, q_awl_eq_1, q_awl_eq_2, q_awl_eq_5, q_awl_eq_6, q_AE_thenL_eq_1, q_putK_eq_1, q_vBin_eq_1, q_resV_eq_1, q_binV_eq_1, q_binInt_eq_3, q_cutInt_eq_5, q_cutInt_eq_7, q_cutInt_eq_10, q_vConv_eq_1, q_vFaddr_eq_1, q_vFaddr_eq_3, q_partV_eq_2, q_loadO_eq_1, q_isV_eq_1, q_vLoad_eq_1, q_vLoad_eq_2, q_vPick_eq_1, q_ofRow_eq_1, q_pureRow_eq_1, q_pureRow_eq_2, q_isVarO_eq_1, q_Bool_not_false, q_Option_map_some, q_List_map_cons, q_List_map_nil, q_List_take_succ_cons, q_List_take_zero, q_List_drop_succ_cons, q_List_drop_zero, q_List_length_cons, q_List_length_nil, true_and, if_true, if_false, Bool.false_eq_true, and_self, ne_eq, Nat.reduceAdd, Nat.reduceLeDiff, Nat.reduceBEq, Nat.zero_add, Nat.add_zero, Nat.le_refl, q_learn_eq_1, not_false_eq_true, q_guardP_eq_2, q_condK_eq_1, q_condB_eq_1, q_condB_eq_2, q_exK_eq_1, decide_true, r_vLen_lst, r_vIaddr_lst, List.length_map, lookT_here, lookT_next, Int.reduceBNe, lookO_here, g_rule0, uf4r47, uf4b48, uf4r49, uf4b50, uf4b51, uf4r52, uf4b53, uf4b54, uf4b57]
    have hask := ok.ask (List.getElem_mem hkl)
    have ht : typeQ o.rules[k].ask = .tup [.int .i64 (qtype o.rules[k].ask), .bool true] := by rw [typeQ, if_neg (by omega)]
    have c16 := s16 o.rules[k].ask
    rw [ht] at c16
    refine call_s c16 ?_
    have tk : List.take o.rules.length (o.rules.map encRule) = o.rules.map encRule := List.take_of_length_le (by simp)
    have l1 : (List.take (k + 1) (o.rules.map encRule)).length = k + 1 := by simp; omega
    have l2 : (List.drop k (o.rules.map encRule)).length = o.rules.length - k := by simp
    have hrows : List.take (k + 1) (o.rules.map encRule) ++ List.drop k (o.rules.map encRule) = (o.rules.take (k + 1) ++ o.rules.drop k).map encRule := by simp
    have hdup := rls_dup o.rules k (-1) hkl
    generalize o.rules.take (k + 1) ++ o.rules.drop k = dup at hrows hdup
    have hx : checkO ⟨o.name, o.accepts, o.choices, dup⟩ = 1 := by
      unfold checkO
      simp only [ok.chs, hdup]
      simp
    have cx := s20 ⟨o.name, o.accepts, o.choices, dup⟩
    rw [hx] at cx
    have s1 : ∀ r : Rule, List.take 1 (encRule r) = [.int .i64 r.ask] := fun _ => rfl
    have s2 : ∀ r : Rule, List.drop 4 (encRule r) = [] := fun r => List.drop_of_length_le (by rw [encRule_len]; omega)
    have hnorm : ∀ p : Int, C.normRows ((o.rules.map encRule).set k [.int .i64 o.rules[k].ask, .int .i64 p, .int .i64 0, .list 0 (some true) []]) = (o.rules.set k ⟨o.rules[k].ask, .mk p 0 []⟩).map encRule := by
      intro p
      rw [C.normRows_map, List.map_set, List.map_set]
      congr 1
      rw [List.map_map]
      exact List.map_congr_left fun r _ => (C.normRow_map _).symm.trans (encRule_norm r)
    have hbent : ∀ p ty : Int, checkT (.mk p 0 []) = (ty, 0) → ty ≠ qtype o.rules[k].ask → checkO ⟨o.name, o.accepts, o.choices, o.rules.set k ⟨o.rules[k].ask, .mk p 0 []⟩⟩ = 11 := by
      intro p ty h1 h2
      unfold checkO
      simp only [ok.chs, rls_set o.rules k (.mk p 0 []) (-1) hkl, ok.rls]
      rw [tys_set o.rules k (.mk p 0 []) hkl ok.tys (by rw [h1]) (by rw [h1]; exact h2)]
      simp
    have sg : ∀ x : List C, ((o.rules.map encRule).set k x).getD k [] = x := by intro x; simp [hkl]
    by_cases hq : qtype o.rules[k].ask = 1
    · have cy := s20 ⟨o.name, o.accepts, o.choices, o.rules.set k ⟨o.rules[k].ask, .mk 0 0 []⟩⟩
      rw [hbent 0 0 chk_i0 (by omega)] at cy
      simp only [hk0, hk1, t0, hq, s1, s2, sg, List.length_map, List.length_set, List.set_set, map_at hkl, q_wpLs_eq_1, q_wpLs_eq_2, q_wpL_eq_1, q_exL_eq_1, q_exL_eq_4, q_exL_eq_6, q_exL_eq_7, q_exL_eq_8, q_exL_eq_9, q_exL_eq_11, q_exL_eq_21, q_exL_eq_23, q_exL_eq_27, q_exL_eq_28, q_exL_eq_33, q_look_eq_1, q_look_eq_2, q_insT_eq_1, q_insO_eq_1, q_awl_eq_2, q_awl_eq_5, q_awl_eq_6, q_AE_thenL_eq_1, q_putK_eq_1, q_vBin_eq_1, q_resV_eq_1, q_binV_eq_1, q_binInt_eq_3, q_cutInt_eq_6, q_vExtr_eq_1, q_vFaddr_eq_1, q_vFaddr_eq_2, q_loadO_eq_1, q_isV_eq_1, q_vLoad_eq_1, q_vIaddr_eq_2, q_idxO_eq_1, q_vBuild_eq_1, q_vBuild_eq_2, q_rowV_eq_1, q_ofRow_eq_1, q_ofRow_eq_2, q_pureRow_eq_1, q_pureRow_eq_2, q_pureRow_eq_3, q_V_cells_eq_1, q_V_cells_eq_2, q_splice_eq_1, q_isVarO_eq_1, q_isArrO_eq_1, q_vRow_eq_2, q_vLits_eq_1, q_bsK_eq_1, q_stVarK_eq_1, q_stArrK_eq_1, q_storeK_eq_1, q_storeK_eq_2, q_appK_eq_1, q_appendK_eq_1, q_mapT_eq_1, q_mapT_eq_2, q_mapO_eq_1, q_mapO_eq_2, q_delO_eq_1, q_delO_eq_2, q_freeB_eq_1, q_freeT_eq_1, q_freeT_eq_2, q_freeO_eq_1, q_freeO_eq_2, q_V_noRef_eq_1, q_V_noRef_eq_2, q_V_noRef_eq_4, q_K_noRef_eq_1, q_K_noRef_eq_3, q_K_noRef_eq_5, q_O_noRef_eq_1, q_V_noRefL_eq_1, q_V_noRefL_eq_2, q_V_scrub_eq_1, q_V_scrub_eq_3, q_V_scrub_eq_5, q_K_scrub_eq_1, q_K_scrub_eq_2, q_K_scrub_eq_5, q_O_scrub_eq_1, q_Option_map_some, q_Option_map_none, q_List_map_cons, q_List_map_nil, q_List_take_succ_cons, q_List_take_zero, q_List_drop_succ_cons, q_List_drop_zero, q_List_nil_append, q_List_cons_append, q_List_foldl_nil, q_List_replicate_zero, q_List_length_cons, q_List_length_nil, q_List_getElemQ_cons_zero, q_List_getElemQ_cons_succ, q_List_all_cons, q_List_all_nil, true_and, if_true, if_false, Bool.false_eq_true, false_implies, implies_true, and_self, bne_iff_ne, ne_eq, Bool.and_eq_true, Bool.and_true, Bool.true_and, Bool.or_true, Bool.false_or, BEq.rfl, List.append_nil, Nat.reduceAdd, Nat.reduceEqDiff, Nat.reduceLeDiff, Nat.reduceBEq, Nat.succ_ne_self, Nat.zero_add, Nat.le_refl, q_learn_eq_1, not_false_eq_true, q_condK_eq_1, q_condB_eq_1, r_srcV_lst, List.length_map, lookT_here, lookT_next, lookO_here, lookO_next, List.not_mem_nil, implies_true, uf4r33, uf4b34, uf4b35, uf4r36, uf4b37, uf4r38, uf4b39, uf4b40, uf4r41, uf4b42, uf4r43, uf4b44, uf4r45, uf4b46]
      refine ⟨by omega, by omega, ?_⟩
      refine call_f 47 (by simp [look, lookT]) (by simp [V.hard, V.toks, Abs.K.toks]) (by simp [lookO, plainO]) ?_
      simp only [q_look_eq_1, q_pureRow_eq_1, q_pureRow_eq_2, q_mapT_eq_1, q_mapT_eq_2, q_mapO_eq_1, q_mapO_eq_2, q_delO_eq_1, q_delO_eq_2, q_Option_map_some, q_List_map_cons, q_List_map_nil, if_true, if_false, or_false, Nat.reduceEqDiff, lookT_here, lookO_here, z_V_k, z_V_agg, z_V_any, z_K_c, z_K_pel, z_K_dead, z_O_var, z_frzT, z_frzO, z_agF1, z_V_agk, z_K_own_arr, z_K_elem_arr, z_K_ptr_arr]
      refine call_s1 cy ?_ (ha := by simp [lendL, lendO, lookO, V.norm, encOrder, norm_list, lst, hnorm])
      simp only [hk, hk0, hk1, ww, w1, t0, t1, tk, l1, l2, hrows, List.length_map, List.map_take, List.map_drop, q_wpLs_eq_1, q_wpLs_eq_2, q_wpLQs_eq_1, q_wpLQs_eq_2, q_wpL_eq_1, q_wpLQ_eq_1, q_exL_eq_8, q_exL_eq_11, q_exL_eq_28, q_exLQ_eq_1, q_exLQ_eq_7, q_exLQ_eq_9, q_exLQ_eq_10, q_exLQ_eq_12, q_exLQ_eq_20, q_exLQ_eq_22, q_exLQ_eq_36, q_look_eq_1, q_look_eq_2, q_insT_eq_1, q_insO_eq_1, q_awl_eq_1, q_awl_eq_2, q_awl_eq_3, q_awl_eq_5, q_awl_eq_6, q_AE_thenL_eq_1, q_putK_eq_1, q_vBin_eq_1, q_resV_eq_1, q_binV_eq_1, q_binInt_eq_3, q_cutInt_eq_1, q_cutInt_eq_7, q_vFaddr_eq_1, q_loadO_eq_1, q_isV_eq_1, q_vLoad_eq_1, q_vBound_eq_1, q_vBound_eq_2, q_ofRow_eq_1, q_ofRow_eq_2, q_pureRow_eq_1, q_pureRow_eq_2, q_pureRow_eq_3, q_V_cells_eq_1, q_splice_eq_1, q_isVarO_eq_1, q_vLits_eq_1, q_bsK_eq_1, q_stVarK_eq_1, q_storeK_eq_1, q_srcV_eq_1, q_appK_eq_1, q_appendK_eq_1, q_mapT_eq_1, q_mapT_eq_2, q_mapO_eq_1, q_mapO_eq_2, q_delO_eq_1, q_delO_eq_2, q_freeB_eq_1, q_freeT_eq_1, q_freeT_eq_2, q_freeO_eq_1, q_freeO_eq_2, q_V_noRef_eq_1, q_V_noRef_eq_2, q_V_noRef_eq_6, q_K_noRef_eq_1, q_K_noRef_eq_3, q_K_noRef_eq_5, q_K_noRef_eq_8, q_O_noRef_eq_1, q_V_scrub_eq_1, q_V_scrub_eq_3, q_V_scrub_eq_6, q_K_scrub_eq_1, q_K_scrub_eq_2, q_K_scrub_eq_5, q_O_scrub_eq_1, q_V_toks_eq_1, q_K_toks_eq_5, q_Option_map_some, q_Option_map_none, q_List_map_cons, q_List_map_nil, q_List_take_succ_cons, q_List_take_zero, q_List_drop_succ_cons, q_List_drop_zero, q_List_nil_append, q_List_cons_append, q_List_foldl_nil, q_List_replicate_zero, q_List_length_cons, q_List_length_nil, q_List_all_cons, q_List_all_nil, true_and, if_true, if_false, Bool.false_eq_true, false_implies, implies_true, true_or, and_self, bne_iff_ne, ne_eq, Bool.and_eq_true, Bool.and_true, Bool.true_and, Bool.or_true, Bool.false_or, List.append_nil, Nat.reduceAdd, Nat.reduceEqDiff, Nat.reduceLeDiff, Nat.reduceBEq, Nat.zero_add, Int.toNat_natCast, Int.toNat_zero, Nat.le_refl, q_learn_eq_1, not_false_eq_true, q_condK_eq_1, q_condB_eq_2, r_vSlice_lst, r_cutS2, List.length_map, lookT_here, lookT_next, Int.reduceLE, Int.reduceBNe, lookO_here, lookO_next, List.not_mem_nil, implies_true, uf4r26, uf4b27, uf4r28, uf4b29, uf4b32]
      refine ⟨by omega, by omega, by omega, by omega, by omega, by omega, ?_⟩
      refine call_f 69 (by simp [look, lookT]) (by simp [V.hard, V.toks, Abs.K.toks]) (by simp [lookO, plainO]) ?_
      simp only [q_look_eq_1, q_pureRow_eq_1, q_pureRow_eq_2, q_mapT_eq_1, q_mapT_eq_2, q_mapO_eq_1, q_mapO_eq_2, q_delO_eq_1, q_delO_eq_2, q_Option_map_some, q_List_map_cons, q_List_map_nil, if_true, if_false, or_false, Nat.reduceEqDiff, Nat.reduceBEq, lookT_here, lookO_here, lookO_next, z_V_k, z_V_agg, z_V_any, z_K_c, z_K_pel, z_K_dead, z_O_var, z_frzT, z_frzO, z_agF1, z_V_agk, z_K_own_arr, z_K_ptr_arr]
      refine call_s1 cx ?_
      simp only [q_wpLs_eq_1, q_wpLs_eq_2, q_wpL_eq_1, q_exL_eq_11, q_look_eq_1, q_look_eq_2, q_insT_eq_1, q_awl_eq_1, q_awl_eq_6, q_awl_eq_11, q_AE_thenL_eq_1, q_keepT_eq_1, q_keepT_eq_2, q_keepO_eq_1, q_keepO_eq_2, q_addO_eq_1, q_putK_eq_1, q_vBin_eq_1, q_resV_eq_1, q_binV_eq_1, q_binInt_eq_3, q_cutInt_eq_7, true_and, if_true, Nat.reduceBEq, q_learn_eq_1, q_condK_eq_1, q_condB_eq_2, lookT_here, lookT_next, Int.reduceBNe, lookO_here, lookO_next, uf4b25]
      exact hrest
    · have cy := s20 ⟨o.name, o.accepts, o.choices, o.rules.set k ⟨o.rules[k].ask, .mk 1 0 []⟩⟩
      rw [hbent 1 1 chk_b0 (fun h => hq h.symm)] at cy
      simp only [hk0, hk1, t0, hq, s1, s2, List.length_map, List.length_set, map_at hkl, q_wpLs_eq_1, q_wpLs_eq_2, q_wpL_eq_1, q_exL_eq_1, q_exL_eq_4, q_exL_eq_6, q_exL_eq_7, q_exL_eq_8, q_exL_eq_9, q_exL_eq_11, q_exL_eq_21, q_exL_eq_23, q_exL_eq_27, q_exL_eq_28, q_exL_eq_33, q_look_eq_1, q_look_eq_2, q_insT_eq_1, q_insO_eq_1, q_awl_eq_1, q_awl_eq_2, q_awl_eq_5, q_awl_eq_6, q_AE_thenL_eq_1, q_putK_eq_1, q_vBin_eq_1, q_resV_eq_1, q_binV_eq_1, q_binInt_eq_3, q_cutInt_eq_6, q_vExtr_eq_1, q_vFaddr_eq_1, q_vFaddr_eq_2, q_loadO_eq_1, q_isV_eq_1, q_vLoad_eq_1, q_vIaddr_eq_2, q_idxO_eq_1, q_vBuild_eq_1, q_vBuild_eq_2, q_rowV_eq_1, q_ofRow_eq_1, q_ofRow_eq_2, q_pureRow_eq_1, q_pureRow_eq_2, q_pureRow_eq_3, q_V_cells_eq_1, q_V_cells_eq_2, q_splice_eq_1, q_isVarO_eq_1, q_isArrO_eq_1, q_vRow_eq_2, q_vLits_eq_1, q_bsK_eq_1, q_stVarK_eq_1, q_stArrK_eq_1, q_storeK_eq_1, q_storeK_eq_2, q_appK_eq_1, q_appendK_eq_1, q_mapT_eq_1, q_mapT_eq_2, q_mapO_eq_1, q_mapO_eq_2, q_delO_eq_1, q_delO_eq_2, q_freeB_eq_1, q_freeT_eq_1, q_freeT_eq_2, q_freeO_eq_1, q_freeO_eq_2, q_V_noRef_eq_1, q_V_noRef_eq_2, q_V_noRef_eq_4, q_K_noRef_eq_1, q_K_noRef_eq_3, q_K_noRef_eq_5, q_O_noRef_eq_1, q_V_noRefL_eq_1, q_V_noRefL_eq_2, q_V_scrub_eq_1, q_V_scrub_eq_3, q_V_scrub_eq_5, q_K_scrub_eq_1, q_K_scrub_eq_2, q_K_scrub_eq_5, q_O_scrub_eq_1, q_Option_map_some, q_Option_map_none, q_List_map_cons, q_List_map_nil, q_List_take_succ_cons, q_List_take_zero, q_List_drop_succ_cons, q_List_drop_zero, q_List_nil_append, q_List_cons_append, q_List_foldl_nil, q_List_replicate_zero, q_List_length_cons, q_List_length_nil, q_List_getElemQ_cons_zero, q_List_getElemQ_cons_succ, q_List_all_cons, q_List_all_nil, true_and, if_true, if_false, Bool.false_eq_true, false_implies, implies_true, forall_const, and_self, bne_iff_ne, ne_eq, Bool.and_eq_true, Bool.and_true, Bool.true_and, Bool.or_true, Bool.false_or, List.append_nil, Nat.reduceAdd, Nat.reduceEqDiff, Nat.reduceLeDiff, Nat.reduceBEq, Nat.succ_ne_self, Nat.zero_add, Nat.le_refl, q_learn_eq_1, not_false_eq_true, q_condK_eq_1, condB_beq, r_srcV_lst, List.length_map, lookT_here, lookT_next, lookO_here, lookO_next, List.not_mem_nil, implies_true, uf4r33, uf4b34, uf4b35, uf4r36, uf4b37, uf4r38, uf4b39, uf4b40, uf4r41, uf4b42, uf4r43, uf4b44, uf4r45, uf4b46]
      refine ⟨by omega, by omega, ?_⟩
      refine call_f 47 (by simp [look, lookT]) (by simp [V.hard, V.toks, Abs.K.toks]) (by simp [lookO, plainO]) ?_
      simp only [q_look_eq_1, q_pureRow_eq_1, q_pureRow_eq_2, q_mapT_eq_1, q_mapT_eq_2, q_mapO_eq_1, q_mapO_eq_2, q_delO_eq_1, q_delO_eq_2, q_Option_map_some, q_List_map_cons, q_List_map_nil, if_true, if_false, or_false, Nat.reduceEqDiff, lookT_here, lookO_here, z_V_k, z_V_agg, z_V_any, z_K_c, z_K_pel, z_K_dead, z_O_var, z_frzT, z_frzO, z_agF1, z_V_agk, z_K_own_arr, z_K_elem_arr, z_K_ptr_arr]
      refine call_s1 cy ?_ (ha := by simp [lendL, lendO, lookO, V.norm, encOrder, norm_list, lst, hnorm])
      simp only [hk, hk0, hk1, ww, w1, t0, t1, tk, l1, l2, hrows, List.length_map, List.map_take, List.map_drop, q_wpLs_eq_1, q_wpLs_eq_2, q_wpLQs_eq_1, q_wpLQs_eq_2, q_wpL_eq_1, q_wpLQ_eq_1, q_exL_eq_8, q_exL_eq_11, q_exL_eq_28, q_exLQ_eq_1, q_exLQ_eq_7, q_exLQ_eq_9, q_exLQ_eq_10, q_exLQ_eq_12, q_exLQ_eq_20, q_exLQ_eq_22, q_exLQ_eq_36, q_look_eq_1, q_look_eq_2, q_insT_eq_1, q_insO_eq_1, q_awl_eq_1, q_awl_eq_2, q_awl_eq_3, q_awl_eq_5, q_awl_eq_6, q_AE_thenL_eq_1, q_putK_eq_1, q_vBin_eq_1, q_resV_eq_1, q_binV_eq_1, q_binInt_eq_3, q_cutInt_eq_1, q_cutInt_eq_7, q_vFaddr_eq_1, q_loadO_eq_1, q_isV_eq_1, q_vLoad_eq_1, q_vBound_eq_1, q_vBound_eq_2, q_ofRow_eq_1, q_ofRow_eq_2, q_pureRow_eq_1, q_pureRow_eq_2, q_pureRow_eq_3, q_V_cells_eq_1, q_splice_eq_1, q_isVarO_eq_1, q_vLits_eq_1, q_bsK_eq_1, q_stVarK_eq_1, q_storeK_eq_1, q_srcV_eq_1, q_appK_eq_1, q_appendK_eq_1, q_mapT_eq_1, q_mapT_eq_2, q_mapO_eq_1, q_mapO_eq_2, q_delO_eq_1, q_delO_eq_2, q_freeB_eq_1, q_freeT_eq_1, q_freeT_eq_2, q_freeO_eq_1, q_freeO_eq_2, q_V_noRef_eq_1, q_V_noRef_eq_2, q_V_noRef_eq_6, q_K_noRef_eq_1, q_K_noRef_eq_3, q_K_noRef_eq_5, q_K_noRef_eq_8, q_O_noRef_eq_1, q_V_scrub_eq_1, q_V_scrub_eq_3, q_V_scrub_eq_6, q_K_scrub_eq_1, q_K_scrub_eq_2, q_K_scrub_eq_5, q_O_scrub_eq_1, q_V_toks_eq_1, q_K_toks_eq_5, q_Option_map_some, q_Option_map_none, q_List_map_cons, q_List_map_nil, q_List_take_succ_cons, q_List_take_zero, q_List_drop_succ_cons, q_List_drop_zero, q_List_nil_append, q_List_cons_append, q_List_foldl_nil, q_List_replicate_zero, q_List_length_cons, q_List_length_nil, q_List_all_cons, q_List_all_nil, true_and, if_true, if_false, Bool.false_eq_true, false_implies, implies_true, true_or, and_self, bne_iff_ne, ne_eq, Bool.and_eq_true, Bool.and_true, Bool.true_and, Bool.or_true, Bool.false_or, List.append_nil, Nat.reduceAdd, Nat.reduceEqDiff, Nat.reduceLeDiff, Nat.reduceBEq, Nat.zero_add, Int.toNat_natCast, Int.toNat_zero, Nat.le_refl, q_learn_eq_1, not_false_eq_true, q_condK_eq_1, q_condB_eq_2, r_vSlice_lst, r_cutS2, List.length_map, lookT_here, lookT_next, Int.reduceLE, Int.reduceBNe, lookO_here, lookO_next, List.not_mem_nil, implies_true, uf4r26, uf4b27, uf4r28, uf4b29, uf4b32]
      refine ⟨by omega, by omega, by omega, by omega, by omega, by omega, ?_⟩
      refine call_f 69 (by simp [look, lookT]) (by simp [V.hard, V.toks, Abs.K.toks]) (by simp [lookO, plainO]) ?_
      simp only [q_look_eq_1, q_pureRow_eq_1, q_pureRow_eq_2, q_mapT_eq_1, q_mapT_eq_2, q_mapO_eq_1, q_mapO_eq_2, q_delO_eq_1, q_delO_eq_2, q_Option_map_some, q_List_map_cons, q_List_map_nil, if_true, if_false, or_false, Nat.reduceEqDiff, Nat.reduceBEq, lookT_here, lookO_here, lookO_next, z_V_k, z_V_agg, z_V_any, z_K_c, z_K_pel, z_K_dead, z_O_var, z_frzT, z_frzO, z_agF1, z_V_agk, z_K_own_arr, z_K_ptr_arr]
      refine call_s1 cx ?_
      simp only [q_wpLs_eq_1, q_wpLs_eq_2, q_wpL_eq_1, q_exL_eq_11, q_look_eq_1, q_look_eq_2, q_insT_eq_1, q_awl_eq_1, q_awl_eq_6, q_awl_eq_11, q_AE_thenL_eq_1, q_keepT_eq_1, q_keepT_eq_2, q_keepO_eq_1, q_keepO_eq_2, q_addO_eq_1, q_putK_eq_1, q_vBin_eq_1, q_resV_eq_1, q_binV_eq_1, q_binInt_eq_3, q_cutInt_eq_7, true_and, if_true, Nat.reduceBEq, q_learn_eq_1, q_condK_eq_1, q_condB_eq_2, lookT_here, lookT_next, Int.reduceBNe, lookO_here, lookO_next, uf4b25]
      exact hrest
end Go.Abs


set_option maxRecDepth 100000
namespace Go.Proofs.Ytckobjgahmmkaaa
open Go.Abs Go.RowKit
theorem own : ownKnob Try.prog.godebug = none := by kernel_rfl
theorem kids : Kids Try.prog (· < Try.prog.types.size) := kids_rows (by kernel_rfl) (by kernel_rfl)
theorem full : ∀ t e, t < Try.prog.types.size → Try.prog.underlying t = some (.slice e) → 0 < Try.prog.cellsOf e := slices_full_of Try.prog (by kernel_rfl)
def plainTs : List TypeId := [3, 4, 5, 9, 22, 23, 25, 39, 41, 43, 45]
theorem plainTs_ok : plainT Try.prog plainTs = true := by kernel_rfl
theorem plainTs_lt : ∀ t ∈ plainTs, t < Try.prog.types.size := by
  have : plainTs.all (fun t => decide (t < Try.prog.types.size)) = true := by kernel_rfl
  simpa using this
theorem tt : TermTypes Try.prog 3 4 9 41 39 43 23 45 22 25 where
  i := Try.underlying3
  b := Try.underlying4
  s := Try.underlying9
  t := ⟨_, Try.underlying41, rfl⟩
  lt := ⟨Try.underlying39, by kernel_rfl⟩
  r := ⟨_, Try.underlying43, rfl⟩
  lr := ⟨Try.underlying23, by kernel_rfl⟩
  c := ⟨_, Try.underlying45, rfl⟩
  lc := ⟨Try.underlying22, by kernel_rfl⟩
  o := ⟨_, Try.underlying25, rfl⟩
theorem spec4 (xs : List V) (h : ArgsOf Try.prog [25, 5, 3] xs) : Go.Abs.Spec Try.prog 4 xs (fun r => r = .bool true) := by
  match xs, h with
  | [a0, a1, a2], ⟨⟨_, _, h0, q0⟩, ⟨_, _, h1, q1⟩, ⟨_, _, h2, q2⟩, _⟩ =>
    obtain ⟨x0, e0⟩ := arg_order tt h0
    obtain ⟨x1, e1, w1⟩ := arg_int Try.underlying5 h1
    obtain ⟨x2, e2, _⟩ := arg_int tt.i h2
    rw [q0, q1, q2, e0, e1, e2]
    exact k4 x0 x1 x2 (by have := (Lit.wf_int_iff .u8 x1).1 w1; simp [IntKind.min, IntKind.max, IntKind.signed, IntKind.bits] at this; omega)
theorem lifted4 (os : Os) (started : os.Started) (H : Type) (enc : TypeId × Value → H) :
    ReturnsInHanded {} Try.checked os 4 .any (Rows.checkBendsSpec.pre6 enc Try.prog Try.f4 Rows.checkBendsRow.domain false) (Rows.checkBendsSpec.post enc Try.prog Try.f4 Rows.checkBendsRow.apart Rows.checkBendsRow.fresh Rows.checkBendsRow.handsOn Rows.checkBendsRow.again) := by
  refine law_lifted (C := Try.checked) (T := plainTs) (tb := 4) own started (by kernel_rfl) Try.func4 ?_ plainTs_ok plainTs_lt ?_ kids full rfl ?_ ?_ Try.underlying4 ?_
  · exact ChangeSpec.witness6 (enc := enc) (C := Try.checked) false ⟨#[], #[.agg #[.string ⟨#[]⟩, .bool false, .slice none 0 0, .slice none 0 0], .int .u8 0, .int .i64 0], []⟩ 8 (by kernel_rfl) (by kernel_rfl) (by kernel_rfl) (by kernel_rfl)
  · rw [Try.params4]; decide
  · intro ds hds
    rw [Try.params4] at hds
    match ds, hds with
    | [a0, a1, a2], _ => rfl
  · kernel_rfl
  · intro xs hxs
    rw [Try.params4] at hxs
    exact spec4 xs hxs
theorem CheckBends_holds : Rows.CheckBendsSaid :=
  OpenClaim.holds_of_wide 4 Try.f4 rfl rfl rfl rfl rfl rfl rfl ⟨rfl, rfl, rfl, rfl, rfl⟩ rfl rfl rfl rfl rfl (by kernel_rfl) Try.func4 (by kernel_rfl)
    (of_decide_eq_true (by kernel_rfl)) (by unfold Func.isWrapper; first | (rw [if_pos (by decide +kernel)]; kernel_rfl) | (rw [if_neg (by decide +kernel)]; exact ⟨rfl, rfl⟩))
    (fun os started H enc _ => lifted4 os started H enc)
end Go.Proofs.Ytckobjgahmmkaaa

