/- Part 6: for every order, every other order and every number the law CheckTells returns true, and its arguments read behind the call as they read before; no condition. The first parts hold a layer of pure values over the model, and the contracts of the functions that the law reaches. -/
import Derived.Test.YtckobjgahmmkaaaP5
import Derived.Test.YtckobjgahmmkaaaRows
import Derived.ProofKit
set_option maxRecDepth 100000
set_option maxHeartbeats 4000000
namespace Go.Abs
open Go.Proofs
mutual
def szT : Term → Nat
  | .mk _ _ a => 1 + szL a
def szL : List Term → Nat
  | [] => 0
  | t :: l => szT t + szL l
end
theorem szT_eq (t : Term) : szT t = 1 + szL t.args := by cases t; simp only [szT, Term.args]
theorem szL_drop {l : List Term} {i : Nat} (h : i < l.length) : szL (l.drop i) = szT l[i] + szL (l.drop (i + 1)) := by
  rw [List.drop_eq_getElem_cons h, szL]
theorem szL_le : ∀ (l : List Term), l.length ≤ szL l
  | [] => by simp [szL]
  | t :: l => by have := szL_le l; rw [szL, szT_eq]; simp; omega
mutual
theorem coll_len : ∀ (t : Term) (acc : List Int), (coll t acc).length ≤ acc.length + szT t
  | .mk o n a, acc => by
    simp only [coll, szT]
    have := collL_len a (if o = 2 then acc ++ [n] else acc)
    split at this <;> simp_all <;> omega
theorem collL_len : ∀ (l : List Term) (acc : List Int), (collL l acc).length ≤ acc.length + szL l
  | [], acc => by simp [collL, szL]
  | t :: l, acc => by
    simp only [collL, szL]
    have h1 := coll_len t acc
    have h2 := collL_len l (coll t acc)
    omega
end
/-- the objects of the walk -/
def walkO (acc : List Int) : OS := [(1005, .var 36 [.own 1000]), (1006, .var 80 [.fnk 62 [.tok 1005, .tok 1006]]), (1000, .arr 3 1 none (ints acc))]
def walkT : List Nat := [1005, 1006, 1000]
theorem s62 : ∀ (t : Term) (acc : List Int), acc.length + szT t ≤ 1000000 → SpecS Try.prog 62 [.agg (encT t), .k (.ptr 1005 0), .k (.ptr 1006 0)] (tabL walkT (walkO acc)) [1005, 1006] (fun r o' => r = .tup [] ∧ o' = tabL walkT (walkO (coll t acc))) := by
  refine Term.ind fun o n a ih acc => ?_
  generalize ht : Term.mk o n a = t
  have ha : a = t.args := by rw [← ht]; rfl
  rw [ha] at ih
  clear ht ha o n a
  intro hsz
  have hsz' := hsz
  rw [szT_eq] at hsz'
  have hal := szL_le t.args
  refine SpecS.of_awl (anchors := [(1, 1005), (2, 1006)]) hf62 okf62 (by simp) (by rfl) (by simp [walkO, walkT]) ?_
  generalize hS : (fun (r : V) (o' : Nat → Option O) => r = .tup [] ∧ o' = tabL walkT (walkO (coll t acc))) = S
  rw [coll_eq] at hS
  have loop : ∀ (acc' : List Int) (nl : Option Bool), acc'.length + szL t.args ≤ 1000000 → collL t.args acc' = collL t.args (if t.op = 2 then acc ++ [t.n] else acc) →
      ∀ ts os, keepT ts [1, 2, 15, 16, 17] = [(1, .k (.ptr 1005 0)), (2, .k (.ptr 1006 0)), (15, lst 3 (t.args.map encT)), (16, .int .i64 t.args.length), (17, .int .i64 0)] →
      keepO os [1000, 1005, 1006] = [(1000, .arr 3 1 nl (ints acc')), (1005, .var 36 [.own 1000]), (1006, .var 80 [.fnk 62 [.tok 1005, .tok 1006]])] →
      awl Try.prog f62l11 (AE.inBlockL 0 (endSK [] [.agg (encT t), .k (.ptr 1005 0), .k (.ptr 1006 0)] (tabL walkT (walkO acc)) walkT [(1, 1005), (2, 1006)] S)) ts os := by
    intro acc' nl hacc hcoll ts os hts hos
    rw [uf62l11]
    refine awl_loop (fun x : Nat × List Int × Option Bool => [(1, .k (.ptr 1005 0)), (2, .k (.ptr 1006 0)), (15, lst 3 (t.args.map encT)), (16, .int .i64 t.args.length), (17, .int .i64 x.1)])
      (fun x => [(1000, .arr 3 1 x.2.2 (ints x.2.1)), (1005, .var 36 [.own 1000]), (1006, .var 80 [.fnk 62 [.tok 1005, .tok 1006]])])
      (fun x => x.1 ≤ t.args.length ∧ x.2.1.length + szL (t.args.drop x.1) ≤ 1000000 ∧ collL (t.args.drop x.1) x.2.1 = collL t.args acc') (fun x => t.args.length - x.1) (0, acc', nl) hts hos ⟨Nat.zero_le _, by simpa using hacc, rfl⟩ ?_
    rintro ⟨i, ac, nl⟩ ⟨hi, hb, hj⟩
    simp only [] at hi hb hj
    by_cases hlt : i < t.args.length
    · have c1 : (i : Int) < t.args.length := by omega
      have c4 : IntKind.i64.wrap ((i : Int) + 1) = (i : Int) + 1 := wrap_in (by omega) (by omega)
      rw [szL_drop hlt] at hb
      rw [collL_drop hlt] at hj
      have hcl := coll_len t.args[i] ac
      simp only [c1, map_at hlt, encT_len, q_wpLs_eq_1, q_wpLs_eq_2, q_wpL_eq_1, q_exL_eq_4, q_exL_eq_8, q_exL_eq_9, q_exL_eq_11, q_exL_eq_23, q_exL_eq_29, q_look_eq_1, q_insT_eq_1, q_insO_eq_1, q_awl_eq_1, q_awl_eq_2, q_awl_eq_5, q_awl_eq_6, q_awl_eq_7, q_AE_thenL_eq_1, q_AE_inBlockL_eq_1, q_putK_eq_1, q_vBin_eq_1, q_resV_eq_1, q_binV_eq_1, q_binInt_eq_3, q_cutInt_eq_8, q_partV_eq_1, q_loadO_eq_1, q_isV_eq_1, q_vLoad_eq_1, q_vLoad_eq_2, q_ofRow_eq_1, q_pureRow_eq_3, q_V_cells_eq_2, q_splice_eq_1, q_stVarK_eq_1, q_storeK_eq_1, q_freeB_eq_1, q_freeT_eq_1, q_freeT_eq_2, q_freeO_eq_1, q_freeO_eq_2, q_V_noRef_eq_1, q_V_noRef_eq_2, q_K_noRef_eq_1, q_K_noRef_eq_2, q_K_noRef_eq_3, q_K_noRef_eq_5, q_K_noRef_eq_6, q_O_noRef_eq_1, q_O_noRef_eq_2, q_Cap_noRef_eq_1, q_List_map_cons, q_List_map_nil, q_List_take_succ_cons, q_List_take_zero, q_List_drop_succ_cons, q_List_drop_zero, q_List_nil_append, q_List_length_cons, q_List_length_nil, q_List_all_cons, q_List_all_nil, true_and, if_true, if_false, Bool.false_eq_true, and_self, bne_iff_ne, ne_eq, Bool.and_eq_true, Bool.and_true, Bool.true_and, Bool.or_true, Bool.false_or, List.append_nil, Nat.reduceAdd, Nat.reduceEqDiff, Nat.reduceBEq, Nat.zero_add, Int.toNat_natCast, Nat.le_refl, Int.natCast_nonneg, q_learn_eq_1, not_false_eq_true, q_condK_eq_1, q_condB_eq_1, decide_true, r_vIaddr_lst, List.length_map, r_ofRow_take, encT_len, lookT_here, lookT_next, lookO_here, lookO_next, uf62r1, uf62r2, uf62r3, uf62b4, uf62b5, uf62b6, uf62b7, uf62b8, uf62r9, uf62b10]
      refine .inr ⟨_, _, rfl, ?_⟩
      refine call_tab (dead := [1000]) (ih t.args[i] (List.getElem_mem hlt) ac (by omega)) ?_ (by simp [V.within, Abs.K.within, capV, walkT]) (by simp [Cap.live, lookO, isVarO]) (by simp [walkT]) (by simp [capV, V.nrm, Abs.K.nrm, encT_norm]) ?_ ?_ ?_ ?_ (by rfl)
      · simp only [c4, walkO, q_wpLs_eq_1, q_wpLs_eq_2, q_wpL_eq_1, q_exL_eq_1, q_exL_eq_11, q_look_eq_1, q_look_eq_2, q_insT_eq_1, q_awl_eq_2, q_AE_thenL_eq_1, q_putK_eq_1, q_vBin_eq_1, q_resV_eq_1, q_binV_eq_1, q_binInt_eq_3, q_cutInt_eq_1, q_mapT_eq_1, q_mapT_eq_2, q_mapO_eq_1, q_mapO_eq_2, q_Cap_noRef_eq_1, q_V_scrub_eq_1, q_V_scrub_eq_3, q_K_scrub_eq_1, q_K_scrub_eq_2, q_K_scrub_eq_4, q_K_scrub_eq_5, q_O_scrub_eq_1, q_O_scrub_eq_2, q_putDK_eq_2, q_List_map_cons, q_List_map_nil, q_List_nil_append, q_List_cons_append, q_List_all_cons, q_List_all_nil, true_and, if_true, if_false, and_self, bne_iff_ne, ne_eq, Bool.and_eq_true, Bool.and_true, Nat.reduceEqDiff, Nat.reduceBEq, not_false_eq_true, lookT_here, lookT_next, r_map_scrub, z_scrubs_nil, z_scrubs_cons, z_oscrubs_nil, z_oscrubs_cons]
        exact Next.intro (i + 1, coll t.args[i] ac, none) rfl rfl ⟨by simp only []; omega, by simp only []; omega, hj⟩ (by simp only []; omega)
      · simp [walkT, lookO, O.within, Abs.K.within, Cap.within]
      · simp [walkT, walkO, lookO, O.nrm, Abs.K.nrm]
      · simp [walkT, walkO, lookO]
      · simp [walkT, walkO, O.within, Abs.K.within, Cap.within]
    · have c1 : ¬ (i : Int) < t.args.length := by omega
      rw [List.drop_eq_nil_of_le (by omega), collL] at hj
      simp only [c1, q_wpLs_eq_1, q_wpLs_eq_2, q_wpL_eq_1, q_exL_eq_11, q_look_eq_1, q_insT_eq_1, q_awl_eq_2, q_awl_eq_5, q_awl_eq_6, q_awl_eq_9, q_AE_thenL_eq_1, q_AE_thenL_eq_2, q_AE_inBlockL_eq_2, q_putK_eq_1, q_vBin_eq_1, q_resV_eq_1, q_binV_eq_1, q_binInt_eq_3, q_cutInt_eq_8, q_mapT_eq_1, q_mapT_eq_2, q_mapO_eq_1, q_mapO_eq_2, q_resL_eq_1, q_one_eq_2, q_V_nrm_eq_1, q_K_nrm_eq_1, q_K_nrm_eq_3, q_O_nrm_eq_1, q_O_nrm_eq_2, q_C_norm_eq_4, q_C_norm_eq_5, q_List_map_cons, q_List_map_nil, q_List_getElemQ_cons_zero, q_List_getElemQ_cons_succ, true_and, if_true, forall_eq_or_imp, forall_eq, or_false, List.mem_cons, Nat.reduceBEq, q_learn_eq_1, q_condK_eq_1, q_condB_eq_2, decide_false, norm_lst, normRows_T, normRows_ints, lookT_here, lookT_next, lookO_here, lookO_next, List.not_mem_nil, z_endSK_normal, z_endSL, uf62b7, uf62b8, uf62r9, uf62b10]
      rw [← hcoll, ← hj] at hS
      have htab := tabL_eq (T := walkT) (os := [(1000, .arr 3 1 none (ints ac)), (1005, .var 36 [.own 1000]), (1006, .var 80 [.fnk 62 [.tok 1005, .tok 1006]])]) (L := walkO ac) (by simp [walkT, walkO, lookO])
      rw [htab, ← hS]
      refine ⟨⟨rfl, rfl⟩, rfl, ?_, ?_, ?_⟩
      · simp [walkT, lookO, O.within, Abs.K.within, Cap.within]
      · simp [walkT, walkO, tabL, tabIn, lookO, likeVar]
      · simp [walkT, walkO, tabL, tabIn, lookO, likeVar]
  by_cases h2 : t.op = 2
  · rw [if_pos h2] at hS loop
    have hlen : (acc ++ [t.n]).length = acc.length + 1 := by simp
    have hop : encT t = [.int .i64 2, .int .i64 t.n, lstC 3 (t.args.map encT)] := by rw [encT_eq, h2]
    simp only [walkO, hop, q_wpLs_eq_1, q_wpLs_eq_2, q_wpL_eq_1, q_exL_eq_1, q_exL_eq_5, q_exL_eq_7, q_exL_eq_8, q_exL_eq_9, q_exL_eq_11, q_exL_eq_21, q_exL_eq_30, q_exL_eq_33, q_look_eq_1, q_look_eq_2, q_insT_eq_1, q_insO_eq_1, q_awl_eq_2, q_awl_eq_5, q_awl_eq_6, q_awl_eq_7, q_AE_thenL_eq_1, q_initT_eq_1, q_initT_eq_2, q_putK_eq_1, q_vBin_eq_1, q_resV_eq_1, q_binV_eq_1, q_binInt_eq_3, q_cutInt_eq_6, q_vFaddr_eq_1, q_loadO_eq_1, q_isV_eq_1, q_vLoad_eq_1, q_ofRow_eq_1, q_pureRow_eq_1, q_pureRow_eq_2, q_pureRow_eq_3, q_V_cells_eq_1, q_splice_eq_1, q_isVarO_eq_1, q_nlApp_eq_2, q_boxK_eq_1, q_vRow_eq_1, q_vLits_eq_1, q_vLits_eq_2, q_bsK_eq_1, q_stVarK_eq_1, q_storeK_eq_1, q_srcO_eq_1, q_srcV_eq_2, q_appK_eq_1, q_appendK_eq_1, q_mapT_eq_1, q_mapT_eq_2, q_mapO_eq_1, q_mapO_eq_2, q_delO_eq_1, q_delO_eq_2, q_freeB_eq_1, q_freeT_eq_1, q_freeT_eq_2, q_freeO_eq_1, q_freeO_eq_2, q_V_noRef_eq_1, q_V_noRef_eq_2, q_K_noRef_eq_1, q_K_noRef_eq_2, q_K_noRef_eq_3, q_K_noRef_eq_6, q_O_noRef_eq_1, q_O_noRef_eq_2, q_Cap_noRef_eq_1, q_V_scrub_eq_1, q_V_scrub_eq_3, q_K_scrub_eq_1, q_K_scrub_eq_2, q_K_scrub_eq_4, q_K_scrub_eq_5, q_O_scrub_eq_1, q_O_scrub_eq_2, q_Option_map_some, q_List_map_cons, q_List_map_nil, q_List_take_succ_cons, q_List_take_zero, q_List_drop_succ_cons, q_List_drop_zero, q_List_nil_append, q_List_foldl_cons, q_List_foldl_nil, q_List_replicate_succ, q_List_replicate_zero, q_List_set_cons_zero, q_List_length_cons, q_List_length_nil, q_List_all_cons, q_List_all_nil, true_and, if_true, if_false, Bool.false_eq_true, forall_eq, or_false, and_self, bne_iff_ne, ne_eq, Bool.and_eq_true, Bool.and_true, Bool.true_and, Bool.or_true, Bool.false_or, BEq.rfl, List.append_nil, List.mem_cons, Nat.reduceAdd, Nat.reduceEqDiff, Nat.reduceLeDiff, Nat.reduceLT, Nat.reduceBEq, Nat.zero_add, Nat.add_zero, Nat.le_refl, q_learn_eq_1, not_false_eq_true, q_condK_eq_1, q_condB_eq_1, r_vLen_lst, ints_len, List.length_map, lookT_here, lookT_next, lookO_here, lookO_next, List.not_mem_nil, uf62, uf62b12, uf62r13, uf62b14, uf62r15, uf62b16, uf62r17, uf62b18, uf62b19, uf62r20, uf62b21]
    refine ⟨by omega, by omega, ?_⟩
    have := loop (acc ++ [t.n]) (some false) (by omega) rfl
    rw [hop] at this
    exact this _ _ rfl (by rw [ints_snoc]; rfl)
  · rw [if_neg h2] at hS loop
    have := loop acc none (by omega) rfl
    rw [encT_eq] at this
    simp only [walkO, encT_eq t, h2, q_wpLs_eq_1, q_wpLs_eq_2, q_wpL_eq_1, q_exL_eq_1, q_exL_eq_5, q_exL_eq_7, q_exL_eq_8, q_exL_eq_9, q_exL_eq_11, q_exL_eq_21, q_exL_eq_30, q_exL_eq_33, q_look_eq_1, q_look_eq_2, q_insT_eq_1, q_insO_eq_1, q_awl_eq_1, q_awl_eq_2, q_awl_eq_5, q_awl_eq_6, q_awl_eq_7, q_AE_thenL_eq_1, q_initT_eq_1, q_initT_eq_2, q_putK_eq_1, q_vBin_eq_1, q_resV_eq_1, q_binV_eq_1, q_binInt_eq_3, q_cutInt_eq_6, q_vFaddr_eq_1, q_loadO_eq_1, q_isV_eq_1, q_vLoad_eq_1, q_ofRow_eq_1, q_pureRow_eq_1, q_pureRow_eq_2, q_pureRow_eq_3, q_V_cells_eq_1, q_splice_eq_1, q_isVarO_eq_1, q_nlApp_eq_2, q_boxK_eq_1, q_vRow_eq_1, q_vLits_eq_1, q_vLits_eq_2, q_bsK_eq_1, q_stVarK_eq_1, q_storeK_eq_1, q_srcO_eq_1, q_srcV_eq_2, q_appK_eq_1, q_appendK_eq_1, q_mapT_eq_1, q_mapT_eq_2, q_mapO_eq_1, q_mapO_eq_2, q_delO_eq_1, q_delO_eq_2, q_freeB_eq_1, q_freeT_eq_1, q_freeT_eq_2, q_freeO_eq_1, q_freeO_eq_2, q_V_noRef_eq_1, q_V_noRef_eq_2, q_K_noRef_eq_1, q_K_noRef_eq_2, q_K_noRef_eq_3, q_K_noRef_eq_6, q_O_noRef_eq_1, q_O_noRef_eq_2, q_Cap_noRef_eq_1, q_V_scrub_eq_1, q_V_scrub_eq_3, q_K_scrub_eq_1, q_K_scrub_eq_2, q_K_scrub_eq_4, q_K_scrub_eq_5, q_O_scrub_eq_1, q_O_scrub_eq_2, q_Option_map_some, q_List_map_cons, q_List_map_nil, q_List_take_succ_cons, q_List_take_zero, q_List_drop_succ_cons, q_List_drop_zero, q_List_nil_append, q_List_foldl_cons, q_List_foldl_nil, q_List_replicate_succ, q_List_replicate_zero, q_List_set_cons_zero, q_List_length_cons, q_List_length_nil, q_List_all_cons, q_List_all_nil, true_and, if_true, if_false, Bool.false_eq_true, false_implies, forall_const, forall_eq, or_false, and_self, bne_iff_ne, ne_eq, Bool.and_eq_true, Bool.and_true, Bool.true_and, Bool.or_true, Bool.false_or, List.append_nil, List.mem_cons, Nat.reduceAdd, Nat.reduceEqDiff, Nat.reduceLeDiff, Nat.reduceLT, Nat.reduceBEq, Nat.zero_add, Nat.add_zero, Nat.le_refl, q_learn_eq_1, not_false_eq_true, q_condK_eq_1, condB_beq, r_vLen_lst, ints_len, List.length_map, lookT_here, lookT_next, lookO_here, lookO_next, List.not_mem_nil, uf62, uf62b12, uf62r13, uf62b14, uf62r15, uf62b16, uf62r17, uf62b18, uf62b19, uf62r20, uf62b21]
    exact this _ _ rfl rfl

theorem szT_nodes : ∀ (f : Nat), (∀ (t : Term) (k : Int), 0 ≤ nodes t k f → (szT t : Int) ≤ k - nodes t k f) ∧ (∀ (l : List Term) (k : Int), 0 ≤ nodesL l k f → (szL l : Int) ≤ k - nodesL l k f) := by
  intro f
  induction f with
  | zero =>
    have h1 : ∀ (t : Term) (k : Int), 0 ≤ nodes t k ((0 : Nat) : Int) → (szT t : Int) ≤ k - nodes t k ((0 : Nat) : Int) := by
      intro t k h
      rw [nodes_eq, if_pos (by omega)] at h
      omega
    refine ⟨h1, fun l => ?_⟩
    induction l with
    | nil => intro k h; simp [nodesL, szL]
    | cons a l ih =>
      intro k h
      simp only [nodesL] at h ⊢
      by_cases hk : k < 0
      · rw [if_pos hk] at h; omega
      · rw [if_neg hk] at h ⊢
        have := ih _ h
        by_cases hn : nodes a k ((0 : Nat) : Int) < 0
        · rw [nodesL_neg _ _ _ hn] at h; omega
        · have := h1 a k (by omega)
          rw [szL]; omega
  | succ f ih =>
    have h1 : ∀ (t : Term) (k : Int), 0 ≤ nodes t k ((f + 1 : Nat) : Int) → (szT t : Int) ≤ k - nodes t k ((f + 1 : Nat) : Int) := by
      intro t k h
      rw [nodes_eq, if_neg (by omega)] at h ⊢
      have e : ((f + 1 : Nat) : Int) - 1 = (f : Nat) := by omega
      rw [e] at h ⊢
      have := ih.2 t.args (k - 1) h
      rw [szT_eq]; omega
    refine ⟨h1, fun l => ?_⟩
    induction l with
    | nil => intro k h; simp [nodesL, szL]
    | cons a l ih =>
      intro k h
      simp only [nodesL] at h ⊢
      by_cases hk : k < 0
      · rw [if_pos hk] at h; omega
      · rw [if_neg hk] at h ⊢
        have := ih _ h
        by_cases hn : nodes a k ((f + 1 : Nat) : Int) < 0
        · rw [nodesL_neg _ _ _ hn] at h; omega
        · have := h1 a k (by omega)
          rw [szL]; omega
theorem s35 (t : Term) : Spec Try.prog 35 [.agg (encT t)] (fun r => r = .k (.newl 3 1 none (ints (if (checkT t).2 ≠ 0 then [] else Lib.compact (sortI (coll t [])))))) := by
  refine Spec.of_awlS hf35 okf35 (by simp) fun S hS => ?_
  simp only [q_wpLs_eq_1, q_wpLs_eq_2, q_wpL_eq_1, q_exL_eq_2, q_exL_eq_5, q_exL_eq_8, q_exL_eq_28, q_look_eq_1, q_insT_eq_1, q_insO_eq_1, q_awl_eq_2, q_awl_eq_5, q_AE_thenL_eq_1, q_initT_eq_1, q_initT_eq_2, q_putK_eq_1, q_loadO_eq_1, q_isV_eq_1, q_vLoad_eq_1, q_boxK_eq_1, q_freeB_eq_1, q_freeT_eq_1, q_freeT_eq_2, q_freeO_eq_1, q_freeO_eq_2, q_V_noRef_eq_1, q_V_noRef_eq_2, q_K_noRef_eq_3, q_O_noRef_eq_1, q_List_map_cons, q_List_map_nil, q_List_drop_zero, true_and, bne_iff_ne, ne_eq, Bool.and_true, Bool.or_true, Bool.false_or, Nat.reduceEqDiff, Nat.reduceBEq, Nat.zero_add, Nat.le_refl, not_false_eq_true, List.length_map, r_ofRow_take, encT_len, lookT_here, lookT_next, lookO_here, lookO_next, r_all_noRef, uf35, uf35r18, uf35b19, uf35b20, uf35r21, uf35b22]
  refine call_s (s31 t) ?_
  simp only [pairV, q_wpLs_eq_1, q_wpLs_eq_2, q_wpL_eq_1, q_exL_eq_1, q_exL_eq_2, q_exL_eq_4, q_exL_eq_8, q_exL_eq_9, q_exL_eq_11, q_exL_eq_17, q_exL_eq_27, q_exL_eq_29, q_look_eq_1, q_look_eq_2, q_insT_eq_1, q_insO_eq_1, q_awl_eq_1, q_awl_eq_2, q_awl_eq_5, q_awl_eq_6, q_awl_eq_10, q_AE_thenL_eq_1, q_AE_thenL_eq_3, q_putK_eq_1, q_vBin_eq_1, q_resV_eq_1, q_binV_eq_1, q_binInt_eq_3, q_cutInt_eq_7, q_vExtr_eq_1, q_loadO_eq_1, q_isV_eq_1, q_vLoad_eq_1, q_ofRow_eq_1, q_pureRow_eq_3, q_V_cells_eq_1, q_splice_eq_1, q_isVarO_eq_1, q_isArrO_eq_1, q_stVarK_eq_1, q_storeK_eq_1, q_mapT_eq_1, q_mapT_eq_2, q_mapO_eq_1, q_mapO_eq_2, q_freeB_eq_1, q_freeT_eq_1, q_freeT_eq_2, q_freeO_eq_1, q_freeO_eq_2, q_V_noRef_eq_1, q_V_noRef_eq_2, q_V_noRef_eq_4, q_K_noRef_eq_1, q_K_noRef_eq_2, q_K_noRef_eq_3, q_O_noRef_eq_1, q_O_noRef_eq_2, q_V_noRefL_eq_1, q_V_noRefL_eq_2, q_endK_eq_2, q_endL_eq_1, q_endV_eq_1, q_resL_eq_1, q_resL_eq_2, q_resX_eq_1, q_one_eq_1, q_V_nrm_eq_1, q_V_nrm_eq_2, q_V_nrm_eq_4, q_K_nrm_eq_1, q_K_nrm_eq_3, q_V_nrmL_eq_1, q_V_nrmL_eq_2, q_O_nrm_eq_1, q_O_nrm_eq_2, q_V_owns_eq_1, q_K_owns_eq_1, q_V_toNew_eq_1, q_K_toNew_eq_2, q_C_norm_eq_4, q_C_norm_eq_5, q_C_normRows_eq_1, q_List_map_cons, q_List_map_nil, q_List_take_succ_cons, q_List_take_zero, q_List_drop_succ_cons, q_List_drop_zero, q_List_nil_append, q_List_length_cons, q_List_length_nil, q_List_getElemQ_cons_zero, q_List_getElemQ_cons_succ, q_List_all_cons, q_List_all_nil, true_and, if_true, if_false, Bool.false_eq_true, and_self, bne_iff_ne, ne_eq, Bool.and_eq_true, Bool.and_true, Bool.true_and, Bool.or_true, Bool.true_or, Bool.false_or, BEq.rfl, List.append_nil, List.nodup_nil, List.nodup_cons, Nat.reduceEqDiff, Nat.reduceBEq, Nat.succ_ne_self, Nat.zero_add, Nat.le_refl, q_learn_eq_1, not_false_eq_true, q_condK_eq_1, condB_bne, encT_norm, List.length_map, r_ofRow_take, encT_len, lookT_here, lookT_next, lookO_here, lookO_next, List.not_mem_nil, r_all_noRef, z_capP, z_caps_nil, z_caps_ptr, z_fnV, z_fnP2, z_pureCaps_tok, r_map_nrm, q_awl_eq_12, z_noAL, ownK_eq, q_awl_eq_13, z_swO_nil, z_swO_cons, z_sw, z_swC_tok, z_swK_c, z_swK_own, z_swK_ptr, z_swK_fnk, z_swV_k, z_swV_agg, z_swV_any, z_swV_tup, z_swO_var, z_swO_arr, z_map_sw, uf35r5, uf35b6, uf35r7, uf35b8, uf35r9, uf35b10, uf35r11, uf35b12, uf35r13, uf35b14, uf35b15, uf35r16, uf35b17]
  refine ⟨fun h => ?_, fun h => ?_⟩
  · rw [if_pos h] at hS
    exact hS
  · rw [if_neg (by simp [h])] at hS
    have hck : (checkT t).2 = 0 := h
    have hsz : szT t ≤ 60 := by
      have hn : ¬ nodes t 60 8 < 0 := by
        intro hn
        rw [checkT, if_pos hn] at hck
        simp at hck
      have := (szT_nodes 8).1 t 60 (by simp; omega)
      have e8 : ((8 : Nat) : Int) = 8 := rfl
      rw [e8] at this
      omega
    have hcl := coll_len t []
    simp only [List.length_nil, Nat.zero_add] at hcl
    refine .inr ⟨_, _, rfl, ?_⟩
    refine call_tab (dead := [1000]) (s62 t [] (by simp; omega)) ?_ (by simp [V.within, Abs.K.within, capV, walkT]) (by simp [Cap.live, lookO, isVarO]) (by simp [walkT]) (by simp [capV, V.nrm, Abs.K.nrm, encT_norm]) ?_ ?_ ?_ ?_ (by rfl)
    · simp only [walkO, q_wpLs_eq_1, q_wpLs_eq_2, q_wpL_eq_1, q_exL_eq_8, q_exL_eq_28, q_look_eq_1, q_insT_eq_1, q_awl_eq_2, q_awl_eq_5, q_AE_thenL_eq_1, q_putK_eq_1, q_loadO_eq_1, q_isV_eq_1, q_vLoad_eq_1, q_ofRow_eq_1, q_pureRow_eq_3, q_mapT_eq_1, q_mapT_eq_2, q_mapO_eq_1, q_mapO_eq_2, q_Cap_noRef_eq_1, q_V_scrub_eq_1, q_V_scrub_eq_3, q_V_scrub_eq_6, q_K_scrub_eq_1, q_K_scrub_eq_2, q_K_scrub_eq_4, q_K_scrub_eq_5, q_O_scrub_eq_1, q_O_scrub_eq_2, q_putDK_eq_2, q_List_map_cons, q_List_map_nil, q_List_take_succ_cons, q_List_take_zero, q_List_drop_zero, q_List_nil_append, q_List_cons_append, q_List_length_cons, q_List_length_nil, q_List_all_cons, q_List_all_nil, true_and, if_true, if_false, Bool.false_eq_true, and_self, bne_iff_ne, ne_eq, Bool.and_eq_true, Bool.and_true, Nat.reduceEqDiff, Nat.reduceBEq, Nat.zero_add, Nat.le_refl, not_false_eq_true, lookT_here, lookT_next, lookO_here, r_map_scrub, z_scrubs_nil, z_scrubs_cons, z_oscrubs_nil, z_oscrubs_cons, uf35r3, uf35b4]
      refine call_sort (coll t []) (s49 (by omega)) rfl ?_
      simp only [q_wpLs_eq_1, q_wpLs_eq_2, q_wpL_eq_1, q_exL_eq_8, q_exL_eq_28, q_look_eq_1, q_insT_eq_1, q_insO_eq_1, q_awl_eq_2, q_awl_eq_5, q_AE_thenL_eq_1, q_putK_eq_1, q_loadO_eq_1, q_isV_eq_1, q_vLoad_eq_1, q_ofRow_eq_1, q_pureRow_eq_3, q_List_map_cons, q_List_map_nil, q_List_take_succ_cons, q_List_take_zero, q_List_drop_zero, q_List_length_cons, q_List_length_nil, true_and, if_false, Bool.false_eq_true, Nat.reduceBEq, Nat.zero_add, Nat.le_refl, lookT_here, lookT_next, lookO_here, lookO_next, uf35r1, uf35b2]
      refine call_compact (sortI (coll t [])) s50 rfl ?_
      simp only [q_wpLs_eq_1, q_wpLs_eq_2, q_wpL_eq_1, q_exL_eq_1, q_look_eq_1, q_insT_eq_1, q_insO_eq_1, q_awl_eq_10, q_isArrO_eq_1, q_mapT_eq_1, q_mapT_eq_2, q_mapO_eq_1, q_mapO_eq_2, q_Cap_noRef_eq_1, q_V_scrub_eq_1, q_V_scrub_eq_3, q_V_scrub_eq_5, q_V_scrub_eq_6, q_K_scrub_eq_1, q_K_scrub_eq_2, q_K_scrub_eq_4, q_K_scrub_eq_5, q_O_scrub_eq_1, q_O_scrub_eq_2, q_endK_eq_2, q_endL_eq_1, q_endV_eq_1, q_resL_eq_1, q_resL_eq_2, q_resX_eq_1, q_one_eq_1, q_V_nrm_eq_1, q_V_nrm_eq_2, q_V_nrm_eq_6, q_K_nrm_eq_1, q_K_nrm_eq_3, q_O_nrm_eq_1, q_O_nrm_eq_2, q_V_owns_eq_1, q_K_owns_eq_1, q_V_toNew_eq_1, q_K_toNew_eq_2, q_C_norm_eq_1, q_C_norm_eq_4, q_C_norm_eq_5, q_C_normRows_eq_1, q_List_map_cons, q_List_map_nil, q_List_all_cons, q_List_all_nil, q_List_isEmpty_nil, true_and, if_true, if_false, and_self, bne_iff_ne, ne_eq, Bool.and_eq_true, Bool.and_true, List.nodup_nil, List.nodup_cons, Nat.reduceEqDiff, not_false_eq_true, normRows_ints, encT_norm, lookT_here, lookO_here, List.not_mem_nil, r_map_scrub, r_map_nrm, q_C_norm_eq_7]
      rw [intRows_norm]
      exact hS
    · simp [walkT, lookO, O.within, Abs.K.within, Cap.within]
    · simp [walkT, walkO, lookO, O.nrm, Abs.K.nrm, ints]
    · simp [walkT, walkO, lookO]
    · simp [walkT, walkO, O.within, Abs.K.within, Cap.within]
end Go.Abs

/- Sorting and compacting: what comes out is the ascending list of what is in. -/
namespace Go.Abs
theorem asc_ext : ∀ (l m : List Int), l.Pairwise (· < ·) → m.Pairwise (· < ·) → (∀ x, x ∈ l ↔ x ∈ m) → l = m
  | [], [], _, _, _ => rfl
  | [], b :: m, _, _, h => by have := (h b).2 (by simp); simp at this
  | a :: l, [], _, _, h => by have := (h a).1 (by simp); simp at this
  | a :: l, b :: m, hl, hm, h => by
    rw [List.pairwise_cons] at hl hm
    have hab : a = b := by
      have h1 := (h a).1 (by simp)
      have h2 := (h b).2 (by simp)
      rcases List.mem_cons.1 h1 with h1 | h1
      · exact h1
      · rcases List.mem_cons.1 h2 with h2 | h2
        · exact h2.symm
        · have := hl.1 b h2; have := hm.1 a h1; omega
    subst hab
    rw [asc_ext l m hl.2 hm.2 (fun x => ?_)]
    have hx := h x
    simp only [List.mem_cons] at hx
    constructor
    · intro hxl
      rcases hx.1 (.inr hxl) with rfl | hxm
      · have := hl.1 x hxl; omega
      · exact hxm
    · intro hxm
      rcases hx.2 (.inr hxm) with rfl | hxl
      · have := hm.1 x hxm; omega
      · exact hxl
theorem upto_asc (n : Nat) : (upto n).Pairwise (· < ·) := by
  unfold upto
  rw [List.pairwise_map]
  exact List.pairwise_lt_range.imp (fun h => by omega)
theorem mem_upto (n : Nat) (x : Int) : x ∈ upto n ↔ 0 ≤ x ∧ x < n := by
  simp only [upto, List.mem_map, List.mem_range]
  constructor
  · rintro ⟨a, h, rfl⟩; omega
  · rintro ⟨h1, h2⟩; exact ⟨x.toNat, by omega, by omega⟩
theorem sortI_asc (l : List Int) : (sortI l).Pairwise (· ≤ ·) := by
  have := List.pairwise_mergeSort (le := fun x y : Int => decide (x ≤ y)) (fun a b c h1 h2 => by simp at *; omega) (fun a b => by simp; omega) l
  exact this.imp (fun h => by simpa using h)
theorem mem_sortI (l : List Int) (x : Int) : x ∈ sortI l ↔ x ∈ l := List.mem_mergeSort
theorem compact_asc (l : List Int) (hs : l.Pairwise (· ≤ ·)) : (Lib.compact l).Pairwise (· < ·) ∧ ∀ x, x ∈ Lib.compact l ↔ x ∈ l := by
  have hget : ∀ i j, i ≤ j → j < l.length → l.toArray[i]! ≤ l.toArray[j]! := by
    intro i j hij hj
    rw [getElem!_pos l.toArray i (by simp; omega), getElem!_pos l.toArray j (by simpa using hj)]
    simp only [List.getElem_toArray]
    rcases Nat.eq_or_lt_of_le hij with h | h
    · subst h; omega
    · exact List.pairwise_iff_getElem.1 hs i j (by omega) hj h
  have key : ∀ m, m ≤ l.length → (Lib.compactUpTo l.toArray m).Pairwise (· < ·) ∧ ∀ x, x ∈ Lib.compactUpTo l.toArray m ↔ ∃ j, j < m ∧ l.toArray[j]! = x := by
    intro m
    induction m with
    | zero => intro _; simp [Lib.compactUpTo]
    | succ m ih =>
      intro hm
      obtain ⟨h1, h2⟩ := ih (by omega)
      have hsucc : Lib.compactUpTo l.toArray (m + 1) = Lib.compactUpTo l.toArray m ++ (if Lib.keeps l.toArray m = true then [l.toArray[m]!] else []) := by
        unfold Lib.compactUpTo
        rw [List.range_succ, List.filter_append, List.map_append]
        congr 1
        by_cases hk : Lib.keeps l.toArray m = true <;> simp [hk]
      rw [hsucc]
      by_cases hk : Lib.keeps l.toArray m = true
      · rw [if_pos hk]
        refine ⟨?_, fun x => ?_⟩
        · rw [List.pairwise_append]
          refine ⟨h1, by simp, fun a ha b hb => ?_⟩
          have hb := List.mem_singleton.1 hb
          subst hb
          obtain ⟨j, hj, rfl⟩ := (h2 a).1 ha
          have hle := hget j m (by omega) (by omega)
          have hk' : m = 0 ∨ l.toArray[m]! ≠ l.toArray[m - 1]! := by simpa [Lib.keeps] using hk
          rcases hk' with h0 | hne
          · omega
          · have ha := hget j (m - 1) (by omega) (by omega)
            have hb := hget (m - 1) m (by omega) (by omega)
            omega
        · rw [List.mem_append, h2]
          simp only [List.mem_singleton]
          constructor
          · rintro (⟨j, hj, rfl⟩ | rfl)
            · exact ⟨j, by omega, rfl⟩
            · exact ⟨m, by omega, rfl⟩
          · rintro ⟨j, hj, rfl⟩
            rcases Nat.lt_or_ge j m with h | h
            · exact .inl ⟨j, h, rfl⟩
            · have : j = m := by omega
              subst this; exact .inr rfl
      · rw [if_neg hk]
        simp only [List.append_nil]
        refine ⟨h1, fun x => ?_⟩
        rw [h2]
        have hk' : ¬ (m = 0 ∨ l.toArray[m]! ≠ l.toArray[m - 1]!) := by simpa [Lib.keeps] using hk
        have hm0 : m ≠ 0 := fun h => hk' (.inl h)
        have heq : l.toArray[m]! = l.toArray[m - 1]! := by
          by_cases h : l.toArray[m]! = l.toArray[m - 1]!
          · exact h
          · exact absurd (.inr h) hk'
        constructor
        · rintro ⟨j, hj, rfl⟩; exact ⟨j, by omega, rfl⟩
        · rintro ⟨j, hj, rfl⟩
          rcases Nat.lt_or_ge j m with h | h
          · exact ⟨j, h, rfl⟩
          · have : j = m := by omega
            subst this; exact ⟨j - 1, by omega, heq.symm⟩
  obtain ⟨h1, h2⟩ := key l.length (Nat.le_refl _)
  refine ⟨h1, fun x => ?_⟩
  show x ∈ Lib.compactUpTo l.toArray l.length ↔ _
  rw [h2, List.mem_iff_getElem]
  constructor
  · rintro ⟨j, hj, rfl⟩
    exact ⟨j, hj, by rw [getElem!_pos l.toArray j (by simpa using hj)]; simp⟩
  · rintro ⟨j, hj, rfl⟩
    exact ⟨j, hj, by rw [getElem!_pos l.toArray j (by simpa using hj)]; simp⟩
/-- sorted and compacted: the ascending list of what there is -/
theorem cs_eq {l : List Int} {n : Nat} {p : Int → Bool} (h : ∀ x, x ∈ l ↔ (0 ≤ x ∧ x < n) ∧ p x = true) : Lib.compact (sortI l) = (upto n).filter p := by
  obtain ⟨h1, h2⟩ := compact_asc (sortI l) (sortI_asc l)
  refine asc_ext _ _ h1 ((upto_asc n).filter _) fun x => ?_
  rw [h2, mem_sortI, h, List.mem_filter, mem_upto]

theorem chk_var {t : Term} (h : (chk t).2 = 0) (h2 : t.op = 2) : t.args = [] ∧ 0 ≤ t.n ∧ t.n < 20 := by
  obtain ⟨_, h1⟩ := chk_ok h
  rw [h1] at h
  have a1 : ¬ (t.op < 0 ∨ t.op > 13) := by omega
  have a2 : t.op = 0 ∨ t.op = 1 ∨ t.op = 2 := by omega
  simp only [node, if_neg a1, if_pos a2, leaf] at h
  split at h
  · simp at h
  · rename_i hl
    rw [if_neg (by omega), if_neg (by omega)] at h
    refine ⟨List.eq_nil_of_length_eq_zero (by omega), ?_⟩
    cases hv : varType t.n with
    | none => rw [hv] at h; simp at h
    | some k => unfold varType at hv; split at hv
                · simp at hv
                · omega
theorem mem_coll : ∀ (t : Term), (chk t).2 = 0 → ∀ (acc : List Int) (v : Int), v ∈ coll t acc ↔ v ∈ acc ∨ used t v = true := by
  refine Term.ind fun o n a ih h acc v => ?_
  have hk := (chk_ok h).1
  rw [coll_eq, used_eq]
  by_cases h2 : o = 2
  · obtain ⟨h3, _⟩ := chk_var h h2
    have h3 : a = [] := h3
    subst h3
    show v ∈ collL [] (if o = 2 then acc ++ [n] else acc) ↔ v ∈ acc ∨ (if o = 2 then decide (n = v) else usedL [] v) = true
    rw [if_pos h2, if_pos h2]
    simp [collL, eq_comm]
  · show v ∈ collL a (if o = 2 then acc ++ [n] else acc) ↔ v ∈ acc ∨ (if o = 2 then decide (n = v) else usedL a v) = true
    rw [if_neg h2, if_neg h2]
    have key : ∀ (l : List Term), (∀ x ∈ l, x ∈ a) → ∀ acc, v ∈ collL l acc ↔ v ∈ acc ∨ usedL l v = true := by
      intro l
      induction l with
      | nil => intro _ acc; simp [collL, usedL]
      | cons b l ihl =>
        intro hm acc
        have hb := hm b (by simp)
        rw [collL, ihl (fun x hx => hm x (by simp [hx])), ih b hb (hk b hb), usedL]
        cases used b v <;> simp
    exact key a (fun x hx => hx) acc
theorem used_range : ∀ (t : Term), (chk t).2 = 0 → ∀ v, used t v = true → 0 ≤ v ∧ v < 20 := by
  refine Term.ind fun o n a ih h v hu => ?_
  have hk := (chk_ok h).1
  rw [used_eq] at hu
  by_cases h2 : o = 2
  · obtain ⟨_, h4⟩ := chk_var h h2
    have hu : decide (n = v) = true := by
      have e : (if o = 2 then decide (n = v) else usedL a v) = true := hu
      rwa [if_pos h2] at e
    have hu : n = v := of_decide_eq_true hu
    subst hu; exact h4
  · have hu : usedL a v = true := by
      have e : (if o = 2 then decide (n = v) else usedL a v) = true := hu
      rwa [if_neg h2] at e
    have key : ∀ (l : List Term), (∀ x ∈ l, x ∈ a) → usedL l v = true → 0 ≤ v ∧ v < 20 := by
      intro l
      induction l with
      | nil => intro _ h; simp [usedL] at h
      | cons b l ihl =>
        intro hm h
        have hb := hm b (by simp)
        rw [usedL] at h
        cases hc : used b v
        · rw [hc] at h; exact ihl (fun x hx => hm x (by simp [hx])) (by simpa using h)
        · exact ih b hb (hk b hb) v hc
    exact key a (fun x hx => hx) hu
theorem checkT_ok {t : Term} (h : (checkT t).2 = 0) : checkT t = chk t ∧ 0 ≤ nodes t 60 8 := by
  unfold checkT at h ⊢
  split at h
  · simp at h
  · rename_i hn; rw [if_neg hn]; exact ⟨rfl, by omega⟩
theorem vars_eq (t : Term) : (if (checkT t).2 ≠ 0 then [] else Lib.compact (sortI (coll t []))) = varsT t := by
  unfold varsT
  split
  · rfl
  · rename_i h
    have h : (checkT t).2 = 0 := by simpa using h
    have hc := (checkT_ok h).1
    rw [hc] at h
    refine cs_eq fun x => ?_
    rw [mem_coll t h]
    constructor
    · rintro (hx | hx)
      · simp at hx
      · exact ⟨used_range t h x hx, hx⟩
    · rintro ⟨_, hx⟩; exact .inr hx
theorem varsT_mem {t : Term} {v : Int} (h : v ∈ varsT t) : 0 ≤ v ∧ v < 20 := by
  unfold varsT at h
  split at h
  · simp at h
  · rw [List.mem_filter, mem_upto] at h; exact h.1

/-! ### Uses, Blind -/
def usesO (o : Order) : List Int := (upto 20).filter fun v => o.rules.any fun r => hasI (varsT r.term) v
def plain (q : Int) : Bool := decide (q = 0 ∨ q = 6 ∨ q = 7)
def blindR (r : Rule) : Bool := plain r.ask && (varsT r.term).any fun v => decide (v ≥ 15)
def blindO (o : Order) : List Int := (upto 22).filter fun q => plain q && o.rules.any fun r => decide (r.ask = q) && (varsT r.term).any fun v => decide (v ≥ 15)
theorem mem_hasI (l : List Int) (v : Int) : hasI l v = true ↔ v ∈ l := by
  simp only [hasI, List.any_eq_true, decide_eq_true_eq]
  constructor
  · rintro ⟨x, h, rfl⟩; exact h
  · intro h; exact ⟨v, h, rfl⟩
theorem uses_eq (o : Order) : Lib.compact (sortI (o.rules.flatMap fun r => varsT r.term)) = usesO o := by
  refine cs_eq fun x => ?_
  simp only [List.mem_flatMap, List.any_eq_true, mem_hasI]
  constructor
  · rintro ⟨r, hr, hx⟩; exact ⟨varsT_mem hx, r, hr, hx⟩
  · rintro ⟨_, r, hr, hx⟩; exact ⟨r, hr, hx⟩
theorem blind_eq (o : Order) : Lib.compact (sortI ((o.rules.filter blindR).map (·.ask))) = blindO o := by
  refine cs_eq fun x => ?_
  simp only [List.mem_map, List.mem_filter, blindR, Bool.and_eq_true, List.any_eq_true, decide_eq_true_eq]
  constructor
  · rintro ⟨r, ⟨hr, hp, h⟩, rfl⟩
    refine ⟨?_, hp, r, hr, rfl, h⟩
    have : r.ask = 0 ∨ r.ask = 6 ∨ r.ask = 7 := by simpa [plain] using hp
    omega
  · rintro ⟨_, hp, r, hr, rfl, h⟩
    exact ⟨r, ⟨hr, hp, h⟩, rfl⟩
end Go.Abs

set_option maxRecDepth 100000
set_option maxHeartbeats 4000000
namespace Go.Abs
open Go.Proofs
theorem s35' (t : Term) : Spec Try.prog 35 [.agg (encT t)] (fun r => r = .k (.newl 3 1 none (ints (varsT t)))) := by
  have := s35 t
  rw [vars_eq] at this; exact this
theorem vars_le (t : Term) : (varsT t).length ≤ 20 := by
  unfold varsT
  split
  · simp
  · exact filter_le _ 20
theorem nlI_append (l m : List Int) : nlApp (nlI l) (ints m) = nlI (l ++ m) := by
  cases m with
  | nil => simp [ints, nlApp]
  | cons a m => simp [ints, nlApp, nlI]
theorem take_flat {l : List Rule} {i : Nat} (h : i < l.length) (g : Rule → List Int) : (l.take (i + 1)).flatMap g = (l.take i).flatMap g ++ g l[i] := by
  rw [List.take_succ_eq_append_getElem h, List.flatMap_append]; simp
theorem flat_le (l : List Rule) : ∀ i, ((l.take i).flatMap fun r => varsT r.term).length ≤ 20 * i := by
  intro i
  induction i with
  | zero => simp
  | succ i ih =>
    by_cases h : i < l.length
    · rw [take_flat h]
      have := vars_le l[i].term
      simp only [List.length_append]; omega
    · rw [List.take_of_length_le (by omega)]
      rw [List.take_of_length_le (by omega)] at ih; omega
theorem s25 (o : Order) (h60 : o.rules.length ≤ 60) : Spec Try.prog 25 [.agg (encOrder o)] (fun r => r = .k (.newl 3 1 none (ints (usesO o)))) := by
  refine Spec.of_awlS hf25 okf25 (by simp) fun S hS => ?_
  rw [← uses_eq] at hS
  simp only [q_wpLs_eq_1, q_wpLs_eq_2, q_wpL_eq_1, q_exL_eq_1, q_exL_eq_2, q_exL_eq_5, q_exL_eq_8, q_exL_eq_21, q_exL_eq_30, q_look_eq_1, q_look_eq_2, q_insT_eq_1, q_insO_eq_1, q_awl_eq_2, q_awl_eq_5, q_awl_eq_7, q_AE_thenL_eq_1, q_initT_eq_1, q_initT_eq_2, q_putK_eq_1, q_vFaddr_eq_1, q_loadO_eq_1, q_isV_eq_1, q_vLoad_eq_1, q_isVarO_eq_1, q_boxK_eq_1, q_freeB_eq_1, q_freeT_eq_1, q_freeT_eq_2, q_freeO_eq_1, q_freeO_eq_2, q_V_noRef_eq_1, q_V_noRef_eq_2, q_K_noRef_eq_2, q_K_noRef_eq_3, q_O_noRef_eq_1, q_O_noRef_eq_2, true_and, and_self, bne_iff_ne, ne_eq, Bool.and_eq_true, Bool.and_true, Bool.or_true, Bool.false_or, Nat.reduceAdd, Nat.reduceEqDiff, Nat.reduceBEq, Nat.zero_add, Nat.le_refl, not_false_eq_true, r_vLen_lst, List.length_map, encOrder_len, lookT_here, lookT_next, lookO_here, lookO_next, f_or3, r_all_noRef, uf25, uf25b16, uf25r17, uf25b18, uf25b19, uf25r20, uf25b21, uf25r22, uf25b23]
  rw [uf25l15]
  refine awl_loop (fun i : Nat => [(3, .k (.own 3)), (7, lst 4 (o.rules.map encRule)), (8, .int .i64 o.rules.length), (9, .int .i64 i)])
    (fun i => [(3, .arr 3 1 (nlI ((o.rules.take i).flatMap fun r => varsT r.term)) (ints ((o.rules.take i).flatMap fun r => varsT r.term)))]) (fun i => i ≤ o.rules.length) (fun i => o.rules.length - i) 0 rfl rfl (Nat.zero_le _) ?_
  intro i hi
  by_cases hlt : i < o.rules.length
  · have c1 : (i : Int) < o.rules.length := by omega
    have c4 : IntKind.i64.wrap ((i : Int) + 1) = (i : Int) + 1 := wrap_in (by omega) (by omega)
    have hle := flat_le o.rules i
    have hv := vars_le o.rules[i].term
    simp only [c1, map_at hlt, q_wpLs_eq_1, q_wpLs_eq_2, q_wpL_eq_1, q_exL_eq_1, q_exL_eq_4, q_exL_eq_8, q_exL_eq_9, q_exL_eq_11, q_exL_eq_21, q_exL_eq_23, q_exL_eq_28, q_look_eq_1, q_insT_eq_1, q_insO_eq_1, q_awl_eq_1, q_awl_eq_2, q_awl_eq_5, q_awl_eq_6, q_awl_eq_7, q_AE_thenL_eq_1, q_AE_inBlockL_eq_1, q_putK_eq_1, q_vBin_eq_1, q_resV_eq_1, q_binV_eq_1, q_binInt_eq_3, q_cutInt_eq_8, q_vFaddr_eq_1, q_partV_eq_1, q_loadO_eq_1, q_isV_eq_1, q_vLoad_eq_1, q_vLoad_eq_2, q_V_cells_eq_2, q_splice_eq_1, q_isVarO_eq_1, q_stVarK_eq_1, q_storeK_eq_1, q_freeB_eq_1, q_freeT_eq_1, q_freeT_eq_2, q_freeO_eq_1, q_freeO_eq_2, q_V_noRef_eq_1, q_V_noRef_eq_2, q_K_noRef_eq_1, q_K_noRef_eq_2, q_K_noRef_eq_5, q_O_noRef_eq_2, q_List_map_cons, q_List_map_nil, q_List_take_zero, q_List_drop_succ_cons, q_List_drop_zero, q_List_nil_append, q_List_length_cons, q_List_length_nil, true_and, if_true, and_self, bne_iff_ne, ne_eq, Bool.and_true, Bool.true_and, Bool.or_true, Bool.false_or, List.append_nil, Nat.reduceAdd, Nat.reduceEqDiff, Nat.reduceBEq, Nat.zero_add, Int.toNat_natCast, Nat.le_refl, Int.natCast_nonneg, q_learn_eq_1, not_false_eq_true, q_condK_eq_1, q_condB_eq_1, decide_true, r_vIaddr_lst, List.length_map, encRule_len, lookT_here, lookT_next, lookO_here, f_rule1, uf25r5, uf25r6, uf25r7, uf25b8, uf25b9, uf25b10, uf25b11, uf25b12, uf25r13, uf25b14]
    refine call_l (s35' o.rules[i].term) ?_
    simp only [c4, q_wpLs_eq_1, q_wpLs_eq_2, q_wpL_eq_1, q_exL_eq_1, q_exL_eq_11, q_exL_eq_33, q_look_eq_1, q_look_eq_2, q_insT_eq_1, q_insO_eq_1, q_awl_eq_2, q_AE_thenL_eq_1, q_putK_eq_1, q_vBin_eq_1, q_resV_eq_1, q_binV_eq_1, q_binInt_eq_3, q_cutInt_eq_1, q_srcO_eq_1, q_srcV_eq_2, q_appK_eq_1, q_appendK_eq_1, q_mapT_eq_1, q_mapT_eq_2, q_mapO_eq_1, q_mapO_eq_2, q_delO_eq_1, q_delO_eq_2, q_V_scrub_eq_1, q_V_scrub_eq_3, q_K_scrub_eq_1, q_K_scrub_eq_2, q_K_scrub_eq_5, q_O_scrub_eq_1, q_O_scrub_eq_2, q_List_map_cons, q_List_map_nil, true_and, if_true, if_false, Nat.reduceEqDiff, Nat.reduceBEq, ints_len, lookT_here, lookT_next, lookO_here, lookO_next, r_map_scrub]
    refine ⟨by omega, by omega, Next.intro (i + 1) rfl ?_ (by omega) (by omega)⟩
    rw [take_flat hlt, ← nlI_append, ← ints_append]; rfl
  · have c1 : ¬ (i : Int) < o.rules.length := by omega
    have hle := flat_le o.rules i
    obtain rfl : i = o.rules.length := by omega
    rw [List.take_length] at hle
    simp only [c1, List.take_length, q_wpLs_eq_1, q_wpLs_eq_2, q_wpL_eq_1, q_exL_eq_1, q_exL_eq_11, q_exL_eq_28, q_look_eq_1, q_insT_eq_1, q_awl_eq_2, q_awl_eq_5, q_awl_eq_6, q_awl_eq_9, q_AE_thenL_eq_1, q_AE_thenL_eq_2, q_AE_inBlockL_eq_2, q_putK_eq_1, q_vBin_eq_1, q_resV_eq_1, q_binV_eq_1, q_binInt_eq_3, q_cutInt_eq_8, q_List_map_cons, q_List_map_nil, true_and, if_true, Nat.reduceBEq, q_learn_eq_1, q_condK_eq_1, q_condB_eq_2, decide_false, lookT_here, lookT_next, uf25r3, uf25b4, uf25b11, uf25b12, uf25r13, uf25b14]
    refine call_sort (o.rules.flatMap fun r => varsT r.term) (s49 (by omega)) rfl ?_
    simp only [q_wpLs_eq_1, q_wpLs_eq_2, q_wpL_eq_1, q_exL_eq_1, q_exL_eq_28, q_look_eq_1, q_insT_eq_1, q_insO_eq_1, q_awl_eq_2, q_awl_eq_5, q_AE_thenL_eq_1, q_List_map_cons, q_List_map_nil, Nat.reduceBEq, lookT_here, lookT_next, uf25r1, uf25b2]
    refine call_compact (sortI (o.rules.flatMap fun r => varsT r.term)) s50 rfl ?_
    simp only [intRows_norm, q_wpLs_eq_1, q_wpLs_eq_2, q_wpL_eq_1, q_exL_eq_1, q_look_eq_1, q_insT_eq_1, q_insO_eq_1, q_awl_eq_10, q_isArrO_eq_1, q_mapT_eq_1, q_mapT_eq_2, q_mapO_eq_1, q_mapO_eq_2, q_V_scrub_eq_1, q_V_scrub_eq_5, q_K_scrub_eq_1, q_K_scrub_eq_5, q_O_scrub_eq_2, q_endK_eq_2, q_endL_eq_1, q_endV_eq_1, q_resL_eq_1, q_resL_eq_2, q_resX_eq_1, q_one_eq_1, q_V_nrm_eq_1, q_V_nrm_eq_6, q_K_nrm_eq_1, q_K_nrm_eq_3, q_O_nrm_eq_2, q_V_owns_eq_1, q_K_owns_eq_1, q_V_toNew_eq_1, q_K_toNew_eq_2, q_C_norm_eq_4, q_C_norm_eq_5, true_and, if_true, and_self, List.nodup_nil, List.nodup_cons, not_false_eq_true, norm_lst, normRows_R, normRows_ints, lookT_here, lookO_here, List.not_mem_nil]
    exact hS
theorem filt_take {l : List Rule} {i : Nat} (h : i < l.length) : ((l.take (i + 1)).filter blindR).map (·.ask) = if blindR l[i] = true then ((l.take i).filter blindR).map (·.ask) ++ [l[i].ask] else ((l.take i).filter blindR).map (·.ask) := by
  rw [List.take_succ_eq_append_getElem h, List.filter_append, List.map_append]
  by_cases hb : blindR l[i] = true <;> simp [hb]
theorem filt_le (l : List Rule) (i : Nat) : (((l.take i).filter blindR).map (·.ask)).length ≤ i := by
  rw [List.length_map]
  exact Nat.le_trans (List.length_filter_le _ _) (by simp; omega)
theorem s27 (o : Order) (h60 : o.rules.length ≤ 60) : Spec Try.prog 27 [.agg (encOrder o)] (fun r => r = .k (.newl 3 1 none (ints (blindO o)))) := by
  refine Spec.of_awlS hf27 okf27 (by simp) fun S hS => ?_
  rw [← blind_eq] at hS
  simp only [q_wpLs_eq_1, q_wpLs_eq_2, q_wpL_eq_1, q_exL_eq_1, q_exL_eq_2, q_exL_eq_5, q_exL_eq_8, q_exL_eq_21, q_exL_eq_30, q_look_eq_1, q_look_eq_2, q_insT_eq_1, q_insO_eq_1, q_awl_eq_2, q_awl_eq_5, q_awl_eq_7, q_AE_thenL_eq_1, q_initT_eq_1, q_initT_eq_2, q_putK_eq_1, q_vFaddr_eq_1, q_loadO_eq_1, q_isV_eq_1, q_vLoad_eq_1, q_isVarO_eq_1, q_boxK_eq_1, q_freeB_eq_1, q_freeT_eq_1, q_freeT_eq_2, q_freeO_eq_1, q_freeO_eq_2, q_V_noRef_eq_1, q_V_noRef_eq_2, q_K_noRef_eq_2, q_K_noRef_eq_3, q_O_noRef_eq_1, q_O_noRef_eq_2, true_and, and_self, bne_iff_ne, ne_eq, Bool.and_eq_true, Bool.and_true, Bool.or_true, Bool.false_or, Nat.reduceAdd, Nat.reduceEqDiff, Nat.reduceBEq, Nat.zero_add, Nat.le_refl, not_false_eq_true, r_vLen_lst, List.length_map, encOrder_len, lookT_here, lookT_next, lookO_here, lookO_next, f_or3, r_all_noRef, uf27, uf27b21, uf27r22, uf27b23, uf27b24, uf27r25, uf27b26, uf27r27, uf27b28]
  rw [uf27l20]
  refine awl_loop (fun i : Nat => [(3, .k (.own 3)), (8, lst 4 (o.rules.map encRule)), (9, .int .i64 o.rules.length), (10, .int .i64 i)])
    (fun i => [(3, .arr 3 1 (nlI (((o.rules.take i).filter blindR).map (·.ask))) (ints (((o.rules.take i).filter blindR).map (·.ask))))]) (fun i => i ≤ o.rules.length) (fun i => o.rules.length - i) 0 rfl rfl (Nat.zero_le _) ?_
  intro i hi
  by_cases hlt : i < o.rules.length
  · have c1 : (i : Int) < o.rules.length := by omega
    have c4 : IntKind.i64.wrap ((i : Int) + 1) = (i : Int) + 1 := wrap_in (by omega) (by omega)
    have hle := filt_le o.rules i
    rw [List.length_map] at hle
    have ht := filt_take hlt
    have hp : ∀ b, (varsT o.rules[i].term).any (fun v => decide (v ≥ 15)) = b → plain o.rules[i].ask = true → blindR o.rules[i] = b := by
      intro b h1 h2; rw [blindR, h2, h1]; rfl
    by_cases hq : o.rules[i].ask = 0 ∨ o.rules[i].ask = 6 ∨ o.rules[i].ask = 7
    · have hpl : plain o.rules[i].ask = true := by simpa [plain] using hq
      rcases hq with hq | hq | hq
      all_goals
        simp only [c1, map_at hlt, hq, q_wpLs_eq_1, q_wpLs_eq_2, q_wpL_eq_1, q_putDL_eq_1, q_AOp_dst_eq_8, q_AOp_dst_eq_10, q_AOp_dst_eq_20, q_AOp_dst_eq_32, q_exL_eq_1, q_exL_eq_3, q_exL_eq_4, q_exL_eq_8, q_exL_eq_9, q_exL_eq_11, q_exL_eq_21, q_exL_eq_23, q_exL_eq_28, q_look_eq_1, q_look_eq_2, q_insT_eq_1, q_insO_eq_1, q_awl_eq_1, q_awl_eq_2, q_awl_eq_5, q_awl_eq_6, q_awl_eq_7, q_AE_thenL_eq_1, q_putK_eq_1, q_vBin_eq_1, q_resV_eq_1, q_binV_eq_1, q_binInt_eq_3, q_cutInt_eq_6, q_cutInt_eq_8, q_vFaddr_eq_1, q_partV_eq_1, q_loadO_eq_1, q_isV_eq_1, q_vLoad_eq_1, q_vLoad_eq_2, q_vPick_eq_1, q_vPick_eq_2, q_V_cells_eq_2, q_splice_eq_1, q_isVarO_eq_1, q_stVarK_eq_1, q_storeK_eq_1, q_freeB_eq_1, q_freeT_eq_1, q_freeT_eq_2, q_freeO_eq_1, q_freeO_eq_2, q_V_noRef_eq_1, q_V_noRef_eq_2, q_K_noRef_eq_1, q_K_noRef_eq_2, q_K_noRef_eq_5, q_O_noRef_eq_2, q_Bool_not_true, q_Bool_not_false, q_List_map_cons, q_List_map_nil, q_List_take_zero, q_List_drop_succ_cons, q_List_drop_zero, q_List_nil_append, q_List_length_cons, q_List_length_nil, true_and, if_true, if_false, Bool.false_eq_true, and_self, bne_iff_ne, ne_eq, Bool.and_true, Bool.true_and, Bool.or_true, Bool.false_or, BEq.rfl, List.append_nil, Nat.reduceAdd, Nat.reduceEqDiff, Nat.reduceLeDiff, Nat.reduceBEq, Nat.zero_add, Nat.add_zero, Int.toNat_natCast, Nat.le_refl, Int.natCast_nonneg, q_learn_eq_1, not_false_eq_true, q_guardP_eq_1, q_guardP_eq_2, q_condK_eq_1, q_condB_eq_1, q_condB_eq_2, q_exK_eq_1, decide_true, r_vIaddr_lst, List.length_map, encRule_len, lookT_here, lookT_next, Int.reduceBEq, lookO_here, f_rule0, f_rule1, uf27r5, uf27r8, uf27b9, uf27r10, uf27b11, uf27r12, uf27b13, uf27b14, uf27b15, uf27b16, uf27b17, uf27r18, uf27b19]
        refine call_l (s35' o.rules[i].term) ?_
        simp only [q_wpLs_eq_2, q_wpL_eq_1, q_AOp_dst_eq_32, q_exL_eq_28, q_look_eq_1, q_look_eq_2, q_insT_eq_1, q_insO_eq_1, q_Bool_not_true, q_List_map_cons, q_List_map_nil, Nat.reduceBEq, q_guardP_eq_1, q_condB_eq_1, q_exK_eq_1, lookT_here, lookT_next]
        refine call_s (s52 (varsT o.rules[i].term)) ?_
        cases hb : (varsT o.rules[i].term).any (fun v => decide (v ≥ 15))
        · simp only [hb, c4, q_wpLs_eq_1, q_wpLs_eq_2, q_wpL_eq_1, q_exL_eq_1, q_exL_eq_3, q_exL_eq_11, q_look_eq_1, q_look_eq_2, q_insT_eq_1, q_awl_eq_1, q_awl_eq_2, q_awl_eq_6, q_AE_thenL_eq_1, q_AE_inBlockL_eq_1, q_putK_eq_1, q_vBin_eq_1, q_resV_eq_1, q_binV_eq_1, q_binInt_eq_3, q_cutInt_eq_1, q_vPick_eq_1, true_and, if_true, Nat.reduceBEq, q_learn_eq_1, q_condK_eq_1, q_condB_eq_2, lookT_here, lookT_next, uf27r6, uf27b7]
          refine Next.intro (i + 1) rfl ?_ (by omega) (by omega)
          rw [ht, if_neg (by rw [hp false hb hpl]; simp)]; rfl
        · simp only [hb, c4, hq, nlI_app, q_wpLs_eq_1, q_wpLs_eq_2, q_wpL_eq_1, q_exL_eq_1, q_exL_eq_3, q_exL_eq_7, q_exL_eq_8, q_exL_eq_11, q_exL_eq_21, q_exL_eq_33, q_look_eq_1, q_look_eq_2, q_insT_eq_1, q_insO_eq_1, q_awl_eq_2, q_awl_eq_6, q_AE_thenL_eq_1, q_AE_inBlockL_eq_1, q_putK_eq_1, q_vBin_eq_1, q_resV_eq_1, q_binV_eq_1, q_binInt_eq_3, q_cutInt_eq_1, q_vFaddr_eq_1, q_loadO_eq_1, q_isV_eq_1, q_vLoad_eq_1, q_vPick_eq_1, q_isVarO_eq_1, q_nlApp_eq_2, q_vRow_eq_1, q_vLits_eq_1, q_vLits_eq_2, q_bsK_eq_1, q_srcO_eq_1, q_srcV_eq_2, q_appK_eq_1, q_appendK_eq_1, q_mapT_eq_1, q_mapT_eq_2, q_mapO_eq_1, q_mapO_eq_2, q_delO_eq_1, q_delO_eq_2, q_freeB_eq_1, q_freeT_eq_1, q_freeT_eq_2, q_freeO_eq_1, q_freeO_eq_2, q_V_noRef_eq_1, q_V_noRef_eq_2, q_V_noRef_eq_5, q_K_noRef_eq_1, q_K_noRef_eq_2, q_K_noRef_eq_3, q_K_noRef_eq_5, q_O_noRef_eq_1, q_O_noRef_eq_2, q_V_scrub_eq_1, q_V_scrub_eq_3, q_V_scrub_eq_4, q_K_scrub_eq_1, q_K_scrub_eq_2, q_K_scrub_eq_5, q_O_scrub_eq_1, q_O_scrub_eq_2, q_List_map_cons, q_List_map_nil, q_List_drop_zero, q_List_foldl_cons, q_List_foldl_nil, q_List_replicate_succ, q_List_replicate_zero, q_List_set_cons_zero, q_List_length_cons, q_List_length_nil, q_List_all_cons, q_List_all_nil, true_and, if_true, if_false, forall_eq, or_false, and_self, bne_iff_ne, ne_eq, Bool.and_eq_true, Bool.and_true, Bool.true_and, Bool.or_true, Bool.false_or, List.mem_cons, Nat.reduceEqDiff, Nat.reduceLeDiff, Nat.reduceLT, Nat.reduceBEq, Nat.zero_add, Nat.add_zero, q_learn_eq_1, not_false_eq_true, q_condK_eq_1, q_condB_eq_1, ints_len, List.length_map, encRule_len, lookT_here, lookT_next, lookO_here, lookO_next, List.not_mem_nil, f_rule0, r_all_noRef, r_map_scrub, uf27r6, uf27b7]
          refine ⟨by omega, by omega, Next.intro (i + 1) rfl ?_ (by omega) (by omega)⟩
          rw [ht, if_pos (hp true hb hpl), ints_snoc, nlI_snoc, hq]; rfl
    · have h1 : ¬ o.rules[i].ask = 0 := fun h => hq (.inl h)
      have h2 : ¬ o.rules[i].ask = 6 := fun h => hq (.inr (.inl h))
      have h3 : ¬ o.rules[i].ask = 7 := fun h => hq (.inr (.inr h))
      have hb : blindR o.rules[i] = false := by
        have : plain o.rules[i].ask = false := by simp [plain, h1, h2, h3]
        rw [blindR, this]; rfl
      simp only [c1, map_at hlt, h1, h2, h3, c4, q_wpLs_eq_1, q_wpLs_eq_2, q_wpL_eq_1, q_putDL_eq_1, q_AOp_dst_eq_8, q_AOp_dst_eq_10, q_AOp_dst_eq_20, q_AOp_dst_eq_32, q_exL_eq_1, q_exL_eq_3, q_exL_eq_4, q_exL_eq_8, q_exL_eq_9, q_exL_eq_11, q_exL_eq_21, q_exL_eq_23, q_exL_eq_28, q_look_eq_1, q_look_eq_2, q_insT_eq_1, q_insO_eq_1, q_awl_eq_1, q_awl_eq_2, q_awl_eq_5, q_awl_eq_6, q_awl_eq_7, q_AE_thenL_eq_1, q_AE_inBlockL_eq_1, q_putK_eq_1, q_vBin_eq_1, q_resV_eq_1, q_binV_eq_1, q_binInt_eq_3, q_cutInt_eq_1, q_cutInt_eq_6, q_cutInt_eq_8, q_vFaddr_eq_1, q_partV_eq_1, q_loadO_eq_1, q_isV_eq_1, q_vLoad_eq_1, q_vLoad_eq_2, q_vPick_eq_1, q_vPick_eq_2, q_vPick_eq_3, q_V_cells_eq_2, q_splice_eq_1, q_isVarO_eq_1, q_stVarK_eq_1, q_storeK_eq_1, q_freeB_eq_1, q_freeT_eq_1, q_freeT_eq_2, q_freeO_eq_1, q_freeO_eq_2, q_V_noRef_eq_1, q_V_noRef_eq_2, q_K_noRef_eq_1, q_K_noRef_eq_2, q_K_noRef_eq_5, q_O_noRef_eq_2, q_Bool_not_true, q_Bool_not_false, q_List_map_cons, q_List_map_nil, q_List_take_zero, q_List_drop_succ_cons, q_List_drop_zero, q_List_nil_append, q_List_length_cons, q_List_length_nil, true_and, if_true, if_false, Bool.false_eq_true, false_implies, forall_const, and_self, bne_iff_ne, ne_eq, Bool.and_true, Bool.true_and, Bool.or_true, Bool.false_or, List.append_nil, Nat.reduceAdd, Nat.reduceEqDiff, Nat.reduceLeDiff, Nat.reduceBEq, Nat.zero_add, Nat.add_zero, Int.toNat_natCast, Nat.le_refl, Int.natCast_nonneg, q_learn_eq_1, not_false_eq_true, q_guardP_eq_1, q_guardP_eq_2, q_condK_eq_1, q_condB_eq_1, q_condB_eq_2, q_exK_eq_1, condB_beq, decide_true, r_vIaddr_lst, List.length_map, encRule_len, lookT_here, lookT_next, lookO_here, f_rule0, f_rule1, uf27r5, uf27r6, uf27b7, uf27r8, uf27b9, uf27r10, uf27b11, uf27r12, uf27b13, uf27b14, uf27b15, uf27b16, uf27b17, uf27r18, uf27b19]
      refine Next.intro (i + 1) rfl ?_ (by omega) (by omega)
      rw [ht, if_neg (by simp [hb])]; rfl
  · have c1 : ¬ (i : Int) < o.rules.length := by omega
    have hle := filt_le o.rules i
    obtain rfl : i = o.rules.length := by omega
    rw [List.take_length] at hle
    simp only [c1, List.take_length, q_wpLs_eq_1, q_wpLs_eq_2, q_wpL_eq_1, q_exL_eq_1, q_exL_eq_11, q_exL_eq_28, q_look_eq_1, q_insT_eq_1, q_awl_eq_2, q_awl_eq_5, q_awl_eq_6, q_awl_eq_9, q_AE_thenL_eq_1, q_AE_thenL_eq_2, q_AE_inBlockL_eq_2, q_putK_eq_1, q_vBin_eq_1, q_resV_eq_1, q_binV_eq_1, q_binInt_eq_3, q_cutInt_eq_8, q_List_map_cons, q_List_map_nil, true_and, if_true, Nat.reduceBEq, q_learn_eq_1, q_condK_eq_1, q_condB_eq_2, decide_false, lookT_here, lookT_next, uf27r3, uf27b4, uf27b16, uf27b17, uf27r18, uf27b19]
    refine call_sort ((o.rules.filter blindR).map (·.ask)) (s49 (by omega)) rfl ?_
    simp only [q_wpLs_eq_1, q_wpLs_eq_2, q_wpL_eq_1, q_exL_eq_1, q_exL_eq_28, q_look_eq_1, q_insT_eq_1, q_insO_eq_1, q_awl_eq_2, q_awl_eq_5, q_AE_thenL_eq_1, q_List_map_cons, q_List_map_nil, Nat.reduceBEq, lookT_here, lookT_next, uf27r1, uf27b2]
    refine call_compact (sortI ((o.rules.filter blindR).map (·.ask))) s50 rfl ?_
    simp only [intRows_norm, q_wpLs_eq_1, q_wpLs_eq_2, q_wpL_eq_1, q_exL_eq_1, q_look_eq_1, q_insT_eq_1, q_insO_eq_1, q_awl_eq_10, q_isArrO_eq_1, q_mapT_eq_1, q_mapT_eq_2, q_mapO_eq_1, q_mapO_eq_2, q_V_scrub_eq_1, q_V_scrub_eq_5, q_K_scrub_eq_1, q_K_scrub_eq_5, q_O_scrub_eq_2, q_endK_eq_2, q_endL_eq_1, q_endV_eq_1, q_resL_eq_1, q_resL_eq_2, q_resX_eq_1, q_one_eq_1, q_V_nrm_eq_1, q_V_nrm_eq_6, q_K_nrm_eq_1, q_K_nrm_eq_3, q_O_nrm_eq_2, q_V_owns_eq_1, q_K_owns_eq_1, q_V_toNew_eq_1, q_K_toNew_eq_2, q_C_norm_eq_4, q_C_norm_eq_5, true_and, if_true, and_self, List.nodup_nil, List.nodup_cons, not_false_eq_true, norm_lst, normRows_R, normRows_ints, lookT_here, lookO_here, List.not_mem_nil]
    exact hS
def anyU (v : Int) (l : List Rule) : Bool := l.any fun r => hasI (varsT r.term) v
theorem anyU_drop {l : List Rule} {i : Nat} (h : i < l.length) (v : Int) : anyU v (l.drop i) = (hasI (varsT l[i].term) v || anyU v (l.drop (i + 1))) := by
  rw [List.drop_eq_getElem_cons h]; rfl
theorem s26 (o : Order) (h60 : o.rules.length ≤ 60) : Spec Try.prog 26 [.agg (encOrder o)] (fun r => r = .k (.newl 3 1 none (ints (usesO o)))) := by
  refine Spec.of_awlS hf26 okf26 (by simp) fun S hS => ?_
  simp only [q_wpLs_eq_1, q_wpLs_eq_2, q_wpL_eq_1, q_exL_eq_1, q_exL_eq_2, q_exL_eq_5, q_exL_eq_7, q_look_eq_1, q_look_eq_2, q_insT_eq_1, q_insO_eq_1, q_awl_eq_2, q_awl_eq_5, q_awl_eq_7, q_AE_thenL_eq_1, q_initT_eq_1, q_initT_eq_2, q_boxK_eq_1, q_vLits_eq_1, q_bsK_eq_1, q_freeB_eq_1, q_freeT_eq_1, q_freeT_eq_2, q_freeO_eq_1, q_freeO_eq_2, q_V_noRef_eq_1, q_V_noRef_eq_2, q_K_noRef_eq_2, q_K_noRef_eq_3, q_O_noRef_eq_1, q_O_noRef_eq_2, q_List_map_nil, q_List_foldl_nil, q_List_replicate_zero, q_List_length_cons, q_List_length_nil, true_and, false_implies, implies_true, and_self, bne_iff_ne, ne_eq, Bool.and_eq_true, Bool.and_true, Bool.or_true, Bool.false_or, Nat.reduceEqDiff, Nat.reduceBEq, Nat.zero_add, not_false_eq_true, lookT_here, List.not_mem_nil, implies_true, r_all_noRef, uf26, uf26b30, uf26r31, uf26b32, uf26b33, uf26r34, uf26b35, uf26r36, uf26b37]
  rw [uf26l29]
  refine awl_loop (fun v : Nat => [(1, .k (.ptr 1 0)), (3, .k (.own 7)), (4, .int .i64 v)])
    (fun v => [(1, .var 25 (orV o)), (7, .arr 3 1 (some false) (ints ((upto v).filter fun v => anyU v o.rules)))]) (fun v => v ≤ 20) (fun v => 20 - v) 0 rfl rfl (Nat.zero_le _) ?_
  intro v hv
  by_cases hlv : v < 20
  · have d1 : (v : Int) < 20 := by omega
    have d4 : IntKind.i64.wrap ((v : Int) + 1) = (v : Int) + 1 := wrap_in (by omega) (by omega)
    simp only [d1, q_wpLs_eq_1, q_wpLs_eq_2, q_wpL_eq_1, q_exL_eq_1, q_exL_eq_11, q_look_eq_1, q_look_eq_2, q_insT_eq_1, q_awl_eq_1, q_awl_eq_2, q_awl_eq_5, q_awl_eq_6, q_awl_eq_7, q_AE_thenL_eq_1, q_putK_eq_1, q_vBin_eq_1, q_resV_eq_1, q_binV_eq_1, q_binInt_eq_3, q_cutInt_eq_8, true_and, if_true, Nat.reduceBEq, q_learn_eq_1, q_condK_eq_1, q_condB_eq_1, decide_true, lookT_here, lookT_next, uf26r3, uf26b17, uf26r18, uf26b19, uf26b20, uf26r21, uf26b22, uf26b23, uf26b24, uf26b25, uf26r26, uf26b27, uf26b28]
    rw [uf26l16]
    refine awl_loop (fun x : Nat × Bool => [(1, .k (.ptr 1 0)), (3, .k (.own 7)), (4, .int .i64 v), (5, .bool x.2), (6, .int .i64 x.1)])
      (fun _ => [(1, .var 25 (orV o)), (7, .arr 3 1 (some false) (ints ((upto v).filter fun v => anyU v o.rules)))])
      (fun x => x.1 ≤ o.rules.length ∧ (x.2 || anyU v (o.rules.drop x.1)) = anyU v o.rules) (fun x => o.rules.length - x.1) (0, false) rfl rfl ⟨Nat.zero_le _, rfl⟩ ?_
    rintro ⟨i, is⟩ ⟨hi, hj⟩
    simp only [] at hi hj
    by_cases hlt : i < o.rules.length
    · have c1 : (i : Int) < o.rules.length := by omega
      have c4 : IntKind.i64.wrap ((i : Int) + 1) = (i : Int) + 1 := wrap_in (by omega) (by omega)
      rw [anyU_drop hlt] at hj
      cases is
      · simp only [c1, c4, map_at hlt, q_wpLs_eq_1, q_wpLs_eq_2, q_wpL_eq_1, q_AOp_dst_eq_1, q_AOp_dst_eq_8, q_AOp_dst_eq_20, q_AOp_dst_eq_22, q_AOp_dst_eq_32, q_exL_eq_1, q_exL_eq_8, q_exL_eq_11, q_exL_eq_21, q_exL_eq_23, q_exL_eq_28, q_exL_eq_30, q_look_eq_1, q_insT_eq_1, q_awl_eq_1, q_awl_eq_2, q_awl_eq_5, q_awl_eq_6, q_awl_eq_7, q_AE_thenL_eq_1, q_AE_inBlockL_eq_1, q_putK_eq_1, q_vBin_eq_1, q_resV_eq_1, q_binV_eq_1, q_binInt_eq_3, q_cutInt_eq_8, q_vFaddr_eq_1, q_vFaddr_eq_3, q_partV_eq_1, q_loadO_eq_1, q_isV_eq_1, q_vLoad_eq_1, q_vLoad_eq_2, q_isVarO_eq_1, q_Bool_not_false, q_List_map_cons, q_List_map_nil, true_and, if_true, if_false, and_self, Nat.reduceAdd, Nat.reduceEqDiff, Nat.reduceBEq, Nat.succ_ne_self, Nat.zero_add, Int.toNat_natCast, Nat.le_refl, Int.natCast_nonneg, q_learn_eq_1, q_guardP_eq_2, q_condK_eq_1, q_condB_eq_1, q_condB_eq_2, q_exK_eq_1, decide_true, r_vLen_lst, r_vIaddr_lst, List.length_map, encOrder_len, lookT_here, lookT_next, lookO_here, g_rule1, f_or3, uf26r8, uf26r9, uf26b10, uf26b11, uf26b12, uf26r13, uf26b14, uf26b15]
        refine call_l (s36 o.rules[i].term) ?_
        simp only [q_wpLs_eq_2, q_wpL_eq_1, q_AOp_dst_eq_1, q_AOp_dst_eq_32, q_exL_eq_1, q_exL_eq_28, q_look_eq_1, q_insT_eq_1, q_insO_eq_1, q_Bool_not_false, q_List_map_cons, q_List_map_nil, Nat.reduceBEq, q_guardP_eq_2, q_condB_eq_2, q_exK_eq_1, lookT_here, lookT_next]
        refine call_s (s51 (varsT o.rules[i].term) v) ?_
        simp only [c4, q_wpLs_eq_1, q_wpLs_eq_2, q_wpL_eq_1, q_exL_eq_1, q_exL_eq_3, q_exL_eq_11, q_look_eq_1, q_look_eq_2, q_insT_eq_1, q_awl_eq_2, q_AE_thenL_eq_1, q_putK_eq_1, q_vBin_eq_1, q_resV_eq_1, q_binV_eq_1, q_binInt_eq_3, q_cutInt_eq_1, q_vPick_eq_1, true_and, if_true, if_false, Bool.false_eq_true, Nat.reduceBEq, lookT_here, lookT_next]
        exact Next.intro (i + 1, hasI (varsT o.rules[i].term) v) rfl rfl ⟨by simp only []; omega, by simpa using hj⟩ (by simp only []; omega)
      · simp only [c1, c4, map_at hlt, q_wpLs_eq_1, q_wpLs_eq_2, q_wpL_eq_1, q_putDL_eq_1, q_AOp_dst_eq_1, q_AOp_dst_eq_8, q_AOp_dst_eq_20, q_AOp_dst_eq_22, q_AOp_dst_eq_32, q_exL_eq_1, q_exL_eq_3, q_exL_eq_8, q_exL_eq_11, q_exL_eq_21, q_exL_eq_30, q_look_eq_1, q_look_eq_2, q_insT_eq_1, q_awl_eq_1, q_awl_eq_2, q_awl_eq_5, q_awl_eq_6, q_awl_eq_7, q_AE_thenL_eq_1, q_AE_inBlockL_eq_1, q_putK_eq_1, q_vBin_eq_1, q_resV_eq_1, q_binV_eq_1, q_binInt_eq_3, q_cutInt_eq_1, q_cutInt_eq_8, q_vFaddr_eq_1, q_loadO_eq_1, q_isV_eq_1, q_vLoad_eq_1, q_vPick_eq_2, q_isVarO_eq_1, q_Bool_not_false, true_and, if_true, Nat.reduceAdd, Nat.reduceBEq, Nat.zero_add, Nat.le_refl, q_learn_eq_1, q_guardP_eq_2, q_condK_eq_1, q_condB_eq_1, decide_true, r_vLen_lst, List.length_map, encOrder_len, lookT_here, lookT_next, lookO_here, f_or3, uf26r8, uf26r9, uf26b10, uf26b11, uf26b12, uf26r13, uf26b14, uf26b15]
        exact Next.intro (i + 1, true) rfl rfl ⟨by simp only []; omega, by simpa using hj⟩ (by simp only []; omega)
    · have c1 : ¬ (i : Int) < o.rules.length := by omega
      rw [List.drop_eq_nil_of_le (by omega)] at hj
      have hj : is = anyU v o.rules := by simpa [anyU] using hj
      have hu := upto_filter (fun v => anyU v o.rules) v
      have hle := filter_le (fun v => anyU v o.rules) v
      cases is
      · simp only [c1, d4, q_wpLs_eq_1, q_wpLs_eq_2, q_wpL_eq_1, q_exL_eq_1, q_exL_eq_8, q_exL_eq_11, q_exL_eq_21, q_exL_eq_30, q_look_eq_1, q_look_eq_2, q_insT_eq_1, q_awl_eq_1, q_awl_eq_2, q_awl_eq_5, q_awl_eq_6, q_awl_eq_9, q_AE_thenL_eq_1, q_AE_thenL_eq_2, q_AE_inBlockL_eq_1, q_AE_inBlockL_eq_2, q_putK_eq_1, q_vBin_eq_1, q_resV_eq_1, q_binV_eq_1, q_binInt_eq_3, q_cutInt_eq_1, q_cutInt_eq_8, q_vFaddr_eq_1, q_loadO_eq_1, q_isV_eq_1, q_vLoad_eq_1, q_isVarO_eq_1, true_and, if_true, if_false, reduceCtorEq, Nat.reduceAdd, Nat.reduceBEq, Nat.succ_ne_self, Nat.zero_add, Nat.le_refl, q_learn_eq_1, q_condK_eq_1, q_condB_eq_2, decide_false, r_vLen_lst, List.length_map, encOrder_len, lookT_here, lookT_next, lookO_here, f_or3, uf26r4, uf26b5, uf26r6, uf26b7, uf26b12, uf26r13, uf26b14, uf26b15]
        refine Next.intro (v + 1) rfl ?_ (by omega) (by omega)
        rw [hu, if_neg (by rw [← hj]; simp)]; rfl
      · simp only [c1, d4, q_wpLs_eq_1, q_wpLs_eq_2, q_wpL_eq_1, q_exL_eq_1, q_exL_eq_7, q_exL_eq_8, q_exL_eq_11, q_exL_eq_21, q_exL_eq_30, q_exL_eq_33, q_look_eq_1, q_look_eq_2, q_insT_eq_1, q_insO_eq_1, q_awl_eq_2, q_awl_eq_5, q_awl_eq_6, q_awl_eq_9, q_AE_thenL_eq_1, q_AE_thenL_eq_2, q_AE_inBlockL_eq_1, q_AE_inBlockL_eq_2, q_putK_eq_1, q_vBin_eq_1, q_resV_eq_1, q_binV_eq_1, q_binInt_eq_3, q_cutInt_eq_1, q_cutInt_eq_8, q_vFaddr_eq_1, q_loadO_eq_1, q_isV_eq_1, q_vLoad_eq_1, q_isVarO_eq_1, q_nlApp_eq_2, q_vRow_eq_1, q_vLits_eq_1, q_vLits_eq_2, q_bsK_eq_1, q_srcO_eq_1, q_srcV_eq_2, q_appK_eq_1, q_appendK_eq_1, q_mapT_eq_1, q_mapT_eq_2, q_mapO_eq_1, q_mapO_eq_2, q_delO_eq_1, q_delO_eq_2, q_freeB_eq_1, q_freeT_eq_1, q_freeT_eq_2, q_freeO_eq_1, q_freeO_eq_2, q_V_noRef_eq_1, q_K_noRef_eq_1, q_K_noRef_eq_2, q_K_noRef_eq_3, q_O_noRef_eq_1, q_O_noRef_eq_2, q_V_scrub_eq_1, q_K_scrub_eq_1, q_K_scrub_eq_2, q_K_scrub_eq_5, q_O_scrub_eq_1, q_O_scrub_eq_2, q_List_map_cons, q_List_map_nil, q_List_foldl_cons, q_List_foldl_nil, q_List_replicate_succ, q_List_replicate_zero, q_List_set_cons_zero, q_List_length_cons, q_List_length_nil, true_and, if_true, if_false, reduceCtorEq, forall_eq, or_false, and_self, bne_iff_ne, ne_eq, Bool.and_eq_true, Bool.and_true, Bool.true_and, Bool.or_true, Bool.false_or, List.mem_cons, Nat.reduceAdd, Nat.reduceEqDiff, Nat.reduceLeDiff, Nat.reduceLT, Nat.reduceBEq, Nat.succ_ne_self, Nat.zero_add, Nat.le_refl, q_learn_eq_1, not_false_eq_true, q_condK_eq_1, q_condB_eq_1, q_condB_eq_2, decide_false, r_vLen_lst, ints_len, List.length_map, encOrder_len, lookT_here, lookT_next, lookO_here, lookO_next, List.not_mem_nil, f_or3, r_all_noRef, r_map_scrub, uf26r4, uf26b5, uf26r6, uf26b7, uf26b12, uf26r13, uf26b14, uf26b15]
        refine ⟨by omega, by omega, Next.intro (v + 1) rfl ?_ (by omega) (by omega)⟩
        rw [hu, if_pos hj.symm, ints_snoc]; rfl
  · have d1 : ¬ (v : Int) < 20 := by omega
    obtain rfl : v = 20 := by omega
    simp only [d1, q_wpLs_eq_1, q_wpLs_eq_2, q_wpL_eq_1, q_exL_eq_1, q_exL_eq_11, q_look_eq_1, q_look_eq_2, q_insT_eq_1, q_awl_eq_2, q_awl_eq_5, q_awl_eq_6, q_awl_eq_9, q_awl_eq_10, q_AE_thenL_eq_1, q_AE_thenL_eq_2, q_AE_inBlockL_eq_2, q_putK_eq_1, q_vBin_eq_1, q_resV_eq_1, q_binV_eq_1, q_binInt_eq_3, q_cutInt_eq_8, q_isArrO_eq_1, q_mapT_eq_1, q_mapT_eq_2, q_mapO_eq_1, q_mapO_eq_2, q_endK_eq_2, q_endL_eq_1, q_endV_eq_1, q_resL_eq_1, q_resL_eq_2, q_resX_eq_1, q_one_eq_1, q_V_nrm_eq_1, q_K_nrm_eq_1, q_K_nrm_eq_3, q_O_nrm_eq_1, q_O_nrm_eq_2, q_V_owns_eq_1, q_K_owns_eq_1, q_V_toNew_eq_1, q_K_toNew_eq_2, q_C_norm_eq_4, q_C_norm_eq_5, true_and, if_true, and_self, List.nodup_nil, List.nodup_cons, Nat.reduceBEq, q_learn_eq_1, not_false_eq_true, q_condK_eq_1, q_condB_eq_2, decide_false, normRows_ints, encOrder_norm, lookT_here, lookT_next, Int.reduceLT, Int.cast_ofNat_Int, lookO_here, lookO_next, List.not_mem_nil, r_map_nrm, uf26r1, uf26b2, uf26b25, uf26r26, uf26b27, uf26b28]
    exact hS
end Go.Abs

set_option maxRecDepth 100000
namespace Go.Abs
open Go.Proofs
theorem s22 (a b : List Int) : Spec Try.prog 22 [lst 1 (ints a), lst 1 (ints b)] (fun r => r = .bool (decide (a = b))) := by
  refine Spec.of_len hf22 fun hlen => ?_
  have hla : a.length ≤ 9223372036854775807 := by have := hlen _ (List.mem_cons_self) (lstC 1 (ints a)) (by simp [lst, V.topC]) _ _ _ rfl; simpa [ints] using this
  clear hlen
  refine Spec.of_awl hf22 okf22 (by simp) ?_
  simp only [lst, lstC, ints_len, q_wpLs_eq_1, q_wpLs_eq_2, q_wpL_eq_1, q_exL_eq_1, q_exL_eq_11, q_exL_eq_30, q_look_eq_1, q_look_eq_2, q_lookO_eq_1, q_insT_eq_1, q_awl_eq_1, q_awl_eq_2, q_awl_eq_5, q_awl_eq_6, q_awl_eq_7, q_awl_eq_10, q_AE_thenL_eq_1, q_AE_thenL_eq_3, q_initT_eq_1, q_initT_eq_2, q_putK_eq_1, q_vBin_eq_1, q_resV_eq_1, q_binV_eq_1, q_binInt_eq_3, q_cutInt_eq_7, q_vLen_eq_1, q_mapT_eq_1, q_mapT_eq_2, q_mapO_eq_1, q_endK_eq_2, q_endL_eq_1, q_endV_eq_1, q_resL_eq_1, q_resL_eq_2, q_resX_eq_1, q_one_eq_1, q_V_nrm_eq_1, q_K_nrm_eq_1, q_V_owns_eq_1, q_K_owns_eq_2, q_V_toNew_eq_1, q_K_toNew_eq_1, q_C_norm_eq_1, q_C_norm_eq_4, q_C_norm_eq_5, true_and, if_true, and_self, List.nodup_nil, Nat.reduceAdd, Nat.reduceBEq, Nat.zero_add, q_learn_eq_1, q_condK_eq_1, condB_bne, normRows_ints, ints_len, lookT_here, lookT_next, uf22, uf22b16, uf22r17, uf22b18, uf22b19, uf22r20, uf22b21, uf22b22, uf22r23, uf22b24, uf22b25, uf22r26, uf22b27]
  refine ⟨fun h => ?_, fun h => ?_⟩
  · have : a ≠ b := by rintro rfl; exact h rfl
    simp [this]
  · rw [uf22l15]
    have h : a.length = b.length := by omega
    refine awl_loop (fun i : Nat => [(0, lst 1 (ints a)), (1, lst 1 (ints b)), (5, .int .i64 i)]) (fun _ => []) (fun i => i ≤ a.length ∧ ∀ j < i, a[j]? = b[j]?) (fun i => a.length - i) 0 rfl rfl ⟨Nat.zero_le _, by simp⟩ ?_
    rintro i ⟨hi, hj⟩
    by_cases hlt : i < a.length
    · have hlt2 : i < b.length := by omega
      have c1 : (i : Int) < a.length := by omega
      have c2 : (i : Int) < b.length := by omega
      have hw : IntKind.i64.wrap ((i : Int) + 1) = (i : Int) + 1 := wrap_in (by omega) (by omega)
      simp only [lst, lstC, ints_len, ints_isEmpty, ints_at hlt, ints_at hlt2, sz_of hlt, sz_of hlt2, c1, c2, hw, not_true_eq_false, q_wpLs_eq_1, q_wpLs_eq_2, q_wpLQs_eq_1, q_wpLQs_eq_2, q_wpL_eq_1, q_wpLQ_eq_1, q_exL_eq_1, q_exL_eq_11, q_exL_eq_30, q_exLQ_eq_1, q_exLQ_eq_9, q_exLQ_eq_12, q_exLQ_eq_24, q_look_eq_1, q_look_eq_2, q_lookO_eq_1, q_insT_eq_1, q_awl_eq_1, q_awl_eq_2, q_awl_eq_3, q_awl_eq_5, q_awl_eq_6, q_awl_eq_7, q_awl_eq_10, q_AE_thenL_eq_1, q_AE_thenL_eq_3, q_AE_inBlockL_eq_1, q_AE_inBlockL_eq_3, q_putK_eq_1, q_vBin_eq_1, q_resV_eq_1, q_binV_eq_1, q_binInt_eq_3, q_cutInt_eq_1, q_cutInt_eq_7, q_cutInt_eq_8, q_vLen_eq_1, q_partV_eq_2, q_vLoad_eq_2, q_vIaddr_eq_1, q_mapT_eq_1, q_mapT_eq_2, q_mapO_eq_1, q_endK_eq_2, q_endL_eq_1, q_endV_eq_1, q_resL_eq_1, q_resL_eq_2, q_resX_eq_1, q_one_eq_1, q_V_nrm_eq_1, q_K_nrm_eq_1, q_K_nrm_eq_2, q_V_owns_eq_1, q_K_owns_eq_2, q_V_toNew_eq_1, q_K_toNew_eq_1, q_C_norm_eq_1, q_C_norm_eq_4, q_C_norm_eq_5, q_List_getD_cons_zero, true_and, if_true, and_self, List.nodup_nil, Nat.reduceBEq, Nat.zero_add, Int.toNat_natCast, Nat.le_refl, Int.natCast_nonneg, q_learn_eq_1, q_condK_eq_1, q_condB_eq_1, condB_bne, decide_true, normRows_ints, ints_len, lookT_here, lookT_next, uf22r3, uf22r4, uf22b5, uf22b6, uf22r7, uf22b8, uf22b9, uf22b10, uf22b11, uf22r12, uf22b13, uf22b14]
      refine ⟨fun hne => ?_, fun he => ?_⟩
      · have : a ≠ b := by rintro rfl; exact hne rfl
        simp [this]
      · refine Next.intro (i + 1) rfl rfl ⟨by omega, fun j hjl => ?_⟩ (by omega)
        by_cases hji : j = i
        · subst hji; simp [hlt, hlt2, he]
        · exact hj j (by omega)
    · have c1 : ¬ (i : Int) < a.length := by omega
      simp only [lst, lstC, ints_len, ints_isEmpty, c1, not_true_eq_false, not_false_eq_true, q_wpLs_eq_1, q_wpLs_eq_2, q_wpL_eq_1, q_exL_eq_1, q_exL_eq_11, q_exL_eq_30, q_look_eq_1, q_look_eq_2, q_lookO_eq_1, q_insT_eq_1, q_awl_eq_2, q_awl_eq_5, q_awl_eq_6, q_awl_eq_9, q_awl_eq_10, q_AE_thenL_eq_1, q_AE_thenL_eq_2, q_AE_inBlockL_eq_2, q_putK_eq_1, q_vBin_eq_1, q_resV_eq_1, q_binV_eq_1, q_binInt_eq_3, q_cutInt_eq_8, q_vLen_eq_1, q_mapT_eq_1, q_mapT_eq_2, q_mapO_eq_1, q_endK_eq_2, q_endL_eq_1, q_endV_eq_1, q_resL_eq_1, q_resL_eq_2, q_resX_eq_1, q_one_eq_1, q_V_nrm_eq_1, q_K_nrm_eq_1, q_V_owns_eq_1, q_K_owns_eq_2, q_V_toNew_eq_1, q_K_toNew_eq_1, q_C_norm_eq_1, q_C_norm_eq_4, q_C_norm_eq_5, true_and, if_true, and_self, List.nodup_nil, Nat.reduceBEq, q_learn_eq_1, q_condK_eq_1, q_condB_eq_2, decide_false, normRows_ints, ints_len, lookT_here, lookT_next, uf22r1, uf22b2, uf22b11, uf22r12, uf22b13, uf22b14]
      have : a = b := by
        refine List.ext_getElem? fun j => ?_
        by_cases hjl : j < i
        · exact hj j hjl
        · rw [List.getElem?_eq_none (by omega), List.getElem?_eq_none (by omega)]
      simp [this]
end Go.Abs

set_option maxRecDepth 100000
set_option maxHeartbeats 4000000
namespace Go.Abs
open Go.Proofs
def oA : Order := ⟨[], false, [], [⟨0, .mk 2 7 []⟩, ⟨6, .mk 0 3 []⟩]⟩
def oB : Order := ⟨[], false, [], [⟨0, .mk 2 15 []⟩]⟩
def oC : Order := ⟨[], false, [], [⟨0, .mk 0 3 []⟩]⟩
theorem p1 : ordersO [oA, oC, oB] 0 = (1, 11) := by decide
theorem p2 : ordersO [oA, oB] 0 = (-1, 0) := by decide
theorem p3 : typeQ 6 = .tup [.int .i64 0, .bool true] := rfl
theorem p4 : checkO oA = 0 := by decide
theorem p5 : checkO oB = 0 := by decide
theorem p6 : checkO oC = 11 := by decide
theorem p7 : usesO oA = [7] := by decide
theorem p8 : usesO oB = [15] := by decide
theorem p9 : usesO oC = [] := by decide
theorem p10 : (gapsO oA).length = 20 := by decide
theorem p11 : (gapsO oB).length = 21 := by decide
theorem p12 : blindO oA = [] := by decide
theorem p13 : blindO oB = [0] := by decide
theorem s22' (l : List Int) : Spec Try.prog 22 [lst 1 (ints l), lst 1 (ints l)] (fun r => r = .bool true) := by
  have := s22 l l
  simpa using this
theorem s14 : Spec Try.prog 14 [] (fun r => r = .bool true) := by
  have c1 := s18 [oA, oC, oB]
  rw [p1] at c1
  have c2 := s18 [oA, oB]
  rw [p2] at c2
  have c3 := s16 6
  rw [p3] at c3
  have c4 := s20 oA
  rw [p4] at c4
  have c5 := s20 oB
  rw [p5] at c5
  have c6 := s20 oC
  rw [p6] at c6
  have c7 := s25 oA (by decide)
  rw [p7] at c7
  have c8 := s25 oB (by decide)
  rw [p8] at c8
  have c9 := s25 oC (by decide)
  rw [p9] at c9
  have c10 := s23 oA
  have c11 := s23 oB
  have c12 := s27 oA (by decide)
  rw [p12] at c12
  have c13 := s27 oB (by decide)
  rw [p13] at c13
  refine Spec.of_awlS hf14 okf14 (by simp) fun S hS => ?_
  simp only [q_wpLs_eq_1, q_wpLs_eq_2, q_wpL_eq_1, q_exL_eq_1, q_exL_eq_4, q_exL_eq_6, q_exL_eq_7, q_exL_eq_8, q_exL_eq_9, q_exL_eq_28, q_look_eq_1, q_look_eq_2, q_insT_eq_1, q_insO_eq_1, q_awl_eq_2, q_awl_eq_5, q_AE_thenL_eq_1, q_initT_eq_1, q_putK_eq_1, q_loadO_eq_1, q_isV_eq_1, q_vLoad_eq_1, q_vBuild_eq_1, q_vBuild_eq_2, q_rowV_eq_1, q_ofRow_eq_2, q_pureRow_eq_1, q_pureRow_eq_2, q_pureRow_eq_3, q_V_cells_eq_1, q_V_cells_eq_2, q_V_cells_eq_3, q_splice_eq_1, q_vRow_eq_2, q_vLits_eq_1, q_vLits_eq_2, q_bsK_eq_1, q_stVarK_eq_1, q_storeK_eq_1, q_mapT_eq_1, q_mapT_eq_2, q_mapO_eq_1, q_mapO_eq_2, q_delO_eq_1, q_delO_eq_2, q_freeB_eq_1, q_freeT_eq_1, q_freeT_eq_2, q_freeO_eq_1, q_freeO_eq_2, q_V_noRef_eq_1, q_V_noRef_eq_2, q_V_noRef_eq_3, q_K_noRef_eq_1, q_K_noRef_eq_2, q_K_noRef_eq_3, q_O_noRef_eq_1, q_O_noRef_eq_2, q_Option_map_some, q_Option_map_none, q_List_map_cons, q_List_map_nil, q_List_take_succ_cons, q_List_take_zero, q_List_drop_succ_cons, q_List_drop_zero, q_List_nil_append, q_List_cons_append, q_List_foldl_cons, q_List_foldl_nil, q_List_replicate_succ, q_List_replicate_zero, q_List_set_cons_zero, q_List_set_cons_succ, q_List_length_cons, q_List_length_nil, q_List_all_cons, q_List_all_nil, true_and, if_true, if_false, forall_eq_or_imp, forall_eq, or_false, and_self, bne_iff_ne, ne_eq, Bool.and_eq_true, Bool.and_true, Bool.true_and, Bool.or_true, Bool.false_or, List.append_nil, List.mem_cons, Nat.reduceAdd, Nat.reduceEqDiff, Nat.reduceLeDiff, Nat.reduceLT, Nat.reduceBEq, Nat.zero_add, Nat.le_refl, not_false_eq_true, lookT_here, lookT_next, lookO_here, lookO_next, List.not_mem_nil, z_V_k, z_V_agg, z_K_c, z_O_var, z_frzT, z_frzO, q_awl_eq_14, z_agF1, z_V_agk, z_K_own_arr, z_K_ptr_arr, uf14, uf14r13, uf14b14, uf14r15, uf14b16, uf14r17, uf14b18, uf14r19, uf14b20, uf14r21, uf14b22, uf14r23, uf14b24, uf14r25, uf14b26, uf14r27, uf14b28]
  refine call_s c1 ?_ (ha := by rfl)
  simp only [pairV, q_wpLs_eq_1, q_wpLs_eq_2, q_wpL_eq_1, q_exL_eq_1, q_exL_eq_7, q_exL_eq_8, q_exL_eq_27, q_exL_eq_28, q_look_eq_1, q_insT_eq_1, q_insO_eq_1, q_awl_eq_2, q_awl_eq_5, q_AE_thenL_eq_1, q_putK_eq_1, q_vExtr_eq_1, q_loadO_eq_1, q_isV_eq_1, q_vLoad_eq_1, q_ofRow_eq_2, q_pureRow_eq_1, q_pureRow_eq_2, q_vRow_eq_2, q_vLits_eq_1, q_vLits_eq_2, q_bsK_eq_1, q_freeB_eq_1, q_freeT_eq_1, q_freeT_eq_2, q_freeO_eq_1, q_freeO_eq_2, q_V_noRef_eq_1, q_V_noRef_eq_2, q_V_noRef_eq_4, q_K_noRef_eq_1, q_K_noRef_eq_2, q_K_noRef_eq_3, q_O_noRef_eq_1, q_O_noRef_eq_2, q_V_noRefL_eq_1, q_V_noRefL_eq_2, q_Option_map_some, q_List_map_cons, q_List_map_nil, q_List_take_succ_cons, q_List_take_zero, q_List_drop_zero, q_List_foldl_cons, q_List_foldl_nil, q_List_replicate_succ, q_List_replicate_zero, q_List_set_cons_zero, q_List_set_cons_succ, q_List_length_cons, q_List_length_nil, q_List_getElemQ_cons_zero, q_List_getElemQ_cons_succ, q_List_all_cons, q_List_all_nil, true_and, if_true, forall_eq_or_imp, forall_eq, or_false, and_self, bne_iff_ne, ne_eq, Bool.and_eq_true, Bool.and_true, Bool.true_and, Bool.or_true, Bool.false_or, List.mem_cons, Nat.reduceAdd, Nat.reduceEqDiff, Nat.reduceLT, Nat.reduceBEq, Nat.zero_add, Nat.le_refl, not_false_eq_true, lookT_here, lookT_next, lookO_here, lookO_next, List.not_mem_nil, uf14r11, uf14b12]
  refine call_s c2 ?_ (ha := by rfl)
  simp only [pairV, q_wpLs_eq_1, q_wpLs_eq_2, q_wpL_eq_1, q_exL_eq_1, q_exL_eq_27, q_exL_eq_28, q_look_eq_1, q_look_eq_2, q_insT_eq_1, q_awl_eq_2, q_awl_eq_5, q_AE_thenL_eq_1, q_putK_eq_1, q_vExtr_eq_1, q_List_map_cons, q_List_map_nil, q_List_getElemQ_cons_zero, q_List_getElemQ_cons_succ, true_and, Int.reduceNeg, Nat.reduceBEq, lookT_here, lookT_next, uf14r9, uf14b10]
  refine call_s c3 ?_ (ha := by rfl)
  simp only [q_wpLs_eq_1, q_wpLs_eq_2, q_wpL_eq_1, q_exL_eq_1, q_exL_eq_8, q_exL_eq_27, q_exL_eq_28, q_look_eq_1, q_insT_eq_1, q_awl_eq_2, q_awl_eq_5, q_AE_thenL_eq_1, q_putK_eq_1, q_vExtr_eq_1, q_loadO_eq_1, q_isV_eq_1, q_vLoad_eq_1, q_ofRow_eq_2, q_pureRow_eq_1, q_pureRow_eq_2, q_Option_map_some, q_List_map_cons, q_List_map_nil, q_List_take_succ_cons, q_List_take_zero, q_List_drop_zero, q_List_length_cons, q_List_length_nil, q_List_getElemQ_cons_zero, q_List_getElemQ_cons_succ, true_and, if_true, Int.reduceNeg, Nat.reduceAdd, Nat.reduceBEq, Nat.zero_add, Nat.le_refl, lookT_here, lookT_next, lookO_here, lookO_next, uf14r7, uf14b8]
  refine call_s c4 ?_ (ha := by rfl)
  simp only [q_wpLs_eq_2, q_wpL_eq_1, q_AOp_dst_eq_8, q_AOp_dst_eq_32, q_exL_eq_1, q_exL_eq_8, q_exL_eq_11, q_exL_eq_28, q_look_eq_1, q_look_eq_2, q_insT_eq_1, q_putK_eq_1, q_vBin_eq_1, q_resV_eq_1, q_binV_eq_1, q_binInt_eq_3, q_cutInt_eq_6, q_loadO_eq_1, q_isV_eq_1, q_vLoad_eq_1, q_ofRow_eq_2, q_pureRow_eq_1, q_pureRow_eq_2, q_Bool_not_true, q_Option_map_some, q_List_map_cons, q_List_map_nil, q_List_take_succ_cons, q_List_take_zero, q_List_drop_zero, q_List_length_cons, q_List_length_nil, true_and, if_true, Int.reduceNeg, BEq.rfl, Nat.reduceAdd, Nat.reduceBEq, Nat.zero_add, Nat.le_refl, q_guardP_eq_1, q_condB_eq_1, q_exK_eq_1, lookT_here, lookT_next, lookO_here, lookO_next]
  refine call_s c5 ?_ (ha := by rfl)
  simp only [q_wpLs_eq_2, q_wpL_eq_1, q_AOp_dst_eq_8, q_AOp_dst_eq_10, q_AOp_dst_eq_32, q_exL_eq_1, q_exL_eq_3, q_exL_eq_8, q_exL_eq_11, q_exL_eq_28, q_look_eq_1, q_look_eq_2, q_insT_eq_1, q_putK_eq_1, q_vBin_eq_1, q_resV_eq_1, q_binV_eq_1, q_binInt_eq_3, q_cutInt_eq_6, q_loadO_eq_1, q_isV_eq_1, q_vLoad_eq_1, q_vPick_eq_1, q_ofRow_eq_2, q_pureRow_eq_1, q_pureRow_eq_2, q_Bool_not_true, q_Option_map_some, q_List_map_cons, q_List_map_nil, q_List_take_succ_cons, q_List_take_zero, q_List_drop_zero, q_List_length_cons, q_List_length_nil, true_and, if_true, Int.reduceNeg, BEq.rfl, Nat.reduceAdd, Nat.reduceBEq, Nat.zero_add, Nat.le_refl, q_guardP_eq_1, q_condB_eq_1, q_exK_eq_1, lookT_here, lookT_next, lookO_here, lookO_next]
  refine call_s c6 ?_ (ha := by rfl)
  simp only [q_wpLs_eq_1, q_wpLs_eq_2, q_wpL_eq_1, q_AOp_dst_eq_1, q_AOp_dst_eq_10, q_exL_eq_1, q_exL_eq_3, q_exL_eq_8, q_exL_eq_11, q_exL_eq_28, q_look_eq_1, q_look_eq_2, q_insT_eq_1, q_awl_eq_2, q_awl_eq_5, q_AE_thenL_eq_1, q_putK_eq_1, q_vBin_eq_1, q_resV_eq_1, q_binV_eq_1, q_binInt_eq_3, q_cutInt_eq_6, q_loadO_eq_1, q_isV_eq_1, q_vLoad_eq_1, q_vPick_eq_1, q_ofRow_eq_2, q_pureRow_eq_1, q_pureRow_eq_2, q_Bool_not_true, q_Option_map_some, q_List_map_cons, q_List_map_nil, q_List_take_succ_cons, q_List_take_zero, q_List_drop_zero, q_List_length_cons, q_List_length_nil, true_and, if_true, Int.reduceNeg, BEq.rfl, Nat.reduceAdd, Nat.reduceBEq, Nat.zero_add, Nat.le_refl, q_guardP_eq_1, q_condB_eq_1, q_exK_eq_1, lookT_here, lookT_next, lookO_here, lookO_next, uf14r5, uf14b6]
  refine call_l c7 ?_ (ha := by rfl)
  simp only [q_wpLs_eq_2, q_wpL_eq_1, q_exL_eq_7, q_exL_eq_28, q_look_eq_1, q_look_eq_2, q_insT_eq_1, q_insO_eq_1, q_vRow_eq_1, q_vLits_eq_1, q_vLits_eq_2, q_bsK_eq_1, q_freeB_eq_1, q_freeT_eq_1, q_freeT_eq_2, q_freeO_eq_1, q_freeO_eq_2, q_V_noRef_eq_1, q_V_noRef_eq_2, q_V_noRef_eq_4, q_K_noRef_eq_1, q_K_noRef_eq_2, q_K_noRef_eq_3, q_O_noRef_eq_1, q_O_noRef_eq_2, q_V_noRefL_eq_1, q_V_noRefL_eq_2, q_List_map_cons, q_List_map_nil, q_List_foldl_cons, q_List_foldl_nil, q_List_replicate_succ, q_List_replicate_zero, q_List_set_cons_zero, q_List_length_cons, q_List_length_nil, q_List_all_cons, q_List_all_nil, true_and, forall_eq, or_false, and_self, bne_iff_ne, ne_eq, Bool.and_eq_true, Bool.and_true, Bool.true_and, Bool.or_true, Bool.false_or, Int.reduceNeg, List.mem_cons, Nat.reduceEqDiff, Nat.reduceLT, Nat.reduceBEq, Nat.zero_add, not_false_eq_true, lookT_here, lookT_next, List.not_mem_nil]
  refine call_s (s22' [7]) ?_ (ha := by rfl)
  simp only [q_wpLs_eq_2, q_wpL_eq_1, q_AOp_dst_eq_8, q_AOp_dst_eq_32, q_exL_eq_1, q_exL_eq_8, q_exL_eq_28, q_look_eq_1, q_insT_eq_1, q_putK_eq_1, q_loadO_eq_1, q_isV_eq_1, q_vLoad_eq_1, q_ofRow_eq_2, q_pureRow_eq_1, q_pureRow_eq_2, q_Bool_not_true, q_Option_map_some, q_List_map_cons, q_List_map_nil, q_List_take_succ_cons, q_List_take_zero, q_List_drop_zero, q_List_length_cons, q_List_length_nil, true_and, if_true, Int.reduceNeg, Nat.reduceAdd, Nat.reduceBEq, Nat.zero_add, Nat.le_refl, q_guardP_eq_1, q_condB_eq_1, q_exK_eq_1, lookT_here, lookT_next, lookO_here, lookO_next]
  refine call_l c8 ?_ (ha := by rfl)
  simp only [q_wpLs_eq_2, q_wpL_eq_1, q_AOp_dst_eq_7, q_AOp_dst_eq_32, q_exL_eq_7, q_exL_eq_28, q_look_eq_1, q_look_eq_2, q_insT_eq_1, q_insO_eq_1, q_vRow_eq_1, q_vLits_eq_1, q_vLits_eq_2, q_bsK_eq_1, q_freeB_eq_1, q_freeT_eq_1, q_freeT_eq_2, q_freeO_eq_1, q_freeO_eq_2, q_V_noRef_eq_1, q_V_noRef_eq_2, q_V_noRef_eq_4, q_K_noRef_eq_1, q_K_noRef_eq_2, q_K_noRef_eq_3, q_O_noRef_eq_1, q_O_noRef_eq_2, q_V_noRefL_eq_1, q_V_noRefL_eq_2, q_Bool_not_true, q_List_map_cons, q_List_map_nil, q_List_foldl_cons, q_List_foldl_nil, q_List_replicate_succ, q_List_replicate_zero, q_List_set_cons_zero, q_List_length_cons, q_List_length_nil, q_List_all_cons, q_List_all_nil, true_and, forall_eq, or_false, and_self, bne_iff_ne, ne_eq, Bool.and_eq_true, Bool.and_true, Bool.true_and, Bool.or_true, Bool.false_or, Int.reduceNeg, List.mem_cons, Nat.reduceEqDiff, Nat.reduceLT, Nat.reduceBEq, Nat.zero_add, not_false_eq_true, q_guardP_eq_1, q_condB_eq_1, q_exK_eq_1, lookT_here, lookT_next, List.not_mem_nil]
  refine call_s (s22' [15]) ?_ (ha := by rfl)
  simp only [q_wpLs_eq_2, q_wpL_eq_1, q_AOp_dst_eq_8, q_AOp_dst_eq_32, q_exL_eq_1, q_exL_eq_3, q_exL_eq_8, q_exL_eq_28, q_look_eq_1, q_look_eq_2, q_insT_eq_1, q_putK_eq_1, q_loadO_eq_1, q_isV_eq_1, q_vLoad_eq_1, q_vPick_eq_1, q_ofRow_eq_2, q_pureRow_eq_1, q_pureRow_eq_2, q_Bool_not_true, q_Option_map_some, q_List_map_cons, q_List_map_nil, q_List_take_succ_cons, q_List_take_zero, q_List_drop_zero, q_List_length_cons, q_List_length_nil, true_and, if_true, Int.reduceNeg, Nat.reduceAdd, Nat.reduceBEq, Nat.zero_add, Nat.le_refl, q_guardP_eq_1, q_condB_eq_1, q_exK_eq_1, lookT_here, lookT_next, lookO_here, lookO_next]
  refine call_l c9 ?_ (ha := by rfl)
  simp only [List.length_nil, q_wpLs_eq_1, q_wpLs_eq_2, q_wpL_eq_1, q_AOp_dst_eq_10, q_AOp_dst_eq_27, q_exL_eq_1, q_exL_eq_3, q_exL_eq_8, q_exL_eq_11, q_exL_eq_28, q_exL_eq_30, q_look_eq_1, q_look_eq_2, q_insT_eq_1, q_insO_eq_1, q_awl_eq_2, q_awl_eq_5, q_AE_thenL_eq_1, q_putK_eq_1, q_vBin_eq_1, q_resV_eq_1, q_binV_eq_1, q_binInt_eq_3, q_cutInt_eq_6, q_vLen_eq_2, q_lenO_eq_1, q_loadO_eq_1, q_isV_eq_1, q_vLoad_eq_1, q_vPick_eq_1, q_ofRow_eq_2, q_pureRow_eq_1, q_pureRow_eq_2, q_Bool_not_true, q_Option_map_some, q_List_map_cons, q_List_map_nil, q_List_take_succ_cons, q_List_take_zero, q_List_drop_zero, q_List_length_cons, true_and, if_true, Int.reduceNeg, BEq.rfl, Nat.reduceAdd, Nat.reduceBEq, Nat.zero_add, Nat.le_refl, q_guardP_eq_1, q_condB_eq_1, q_exK_eq_1, ints_len, lookT_here, lookT_next, Int.cast_ofNat_Int, lookO_here, lookO_next, uf14r3, uf14b4]
  refine call_l c10 ?_ (ha := by rfl)
  simp only [p10, q_wpLs_eq_2, q_wpL_eq_1, q_AOp_dst_eq_8, q_AOp_dst_eq_32, q_exL_eq_1, q_exL_eq_8, q_exL_eq_11, q_exL_eq_28, q_exL_eq_30, q_look_eq_1, q_look_eq_2, q_insT_eq_1, q_insO_eq_1, q_putK_eq_1, q_vBin_eq_1, q_resV_eq_1, q_binV_eq_1, q_binInt_eq_3, q_cutInt_eq_6, q_vLen_eq_2, q_lenO_eq_1, q_loadO_eq_1, q_isV_eq_1, q_vLoad_eq_1, q_ofRow_eq_2, q_pureRow_eq_1, q_pureRow_eq_2, q_Bool_not_true, q_Option_map_some, q_List_map_cons, q_List_map_nil, q_List_take_succ_cons, q_List_take_zero, q_List_drop_zero, q_List_length_cons, q_List_length_nil, true_and, if_true, Int.reduceNeg, BEq.rfl, Nat.reduceAdd, Nat.reduceBEq, Nat.zero_add, Nat.le_refl, q_guardP_eq_1, q_condB_eq_1, q_exK_eq_1, ints_len, lookT_here, lookT_next, Int.cast_ofNat_Int, lookO_here, lookO_next]
  refine call_l c11 ?_ (ha := by rfl)
  simp only [p11, q_wpLs_eq_2, q_wpL_eq_1, q_AOp_dst_eq_8, q_AOp_dst_eq_10, q_AOp_dst_eq_27, q_AOp_dst_eq_32, q_exL_eq_1, q_exL_eq_3, q_exL_eq_8, q_exL_eq_11, q_exL_eq_28, q_exL_eq_30, q_look_eq_1, q_look_eq_2, q_insT_eq_1, q_insO_eq_1, q_putK_eq_1, q_vBin_eq_1, q_resV_eq_1, q_binV_eq_1, q_binInt_eq_3, q_cutInt_eq_6, q_vLen_eq_2, q_lenO_eq_1, q_loadO_eq_1, q_isV_eq_1, q_vLoad_eq_1, q_vPick_eq_1, q_ofRow_eq_2, q_pureRow_eq_1, q_pureRow_eq_2, q_Bool_not_true, q_Option_map_some, q_List_map_cons, q_List_map_nil, q_List_take_succ_cons, q_List_take_zero, q_List_drop_zero, q_List_length_cons, q_List_length_nil, true_and, if_true, Int.reduceNeg, BEq.rfl, Nat.reduceAdd, Nat.reduceBEq, Nat.zero_add, Nat.le_refl, q_guardP_eq_1, q_condB_eq_1, q_exK_eq_1, ints_len, lookT_here, lookT_next, Int.cast_ofNat_Int, lookO_here, lookO_next]
  refine call_l c12 ?_ (ha := by rfl)
  simp only [List.length_nil, q_wpLs_eq_2, q_wpL_eq_1, q_AOp_dst_eq_8, q_AOp_dst_eq_10, q_AOp_dst_eq_27, q_AOp_dst_eq_32, q_exL_eq_1, q_exL_eq_3, q_exL_eq_8, q_exL_eq_11, q_exL_eq_28, q_exL_eq_30, q_look_eq_1, q_look_eq_2, q_insT_eq_1, q_insO_eq_1, q_putK_eq_1, q_vBin_eq_1, q_resV_eq_1, q_binV_eq_1, q_binInt_eq_3, q_cutInt_eq_6, q_vLen_eq_2, q_lenO_eq_1, q_loadO_eq_1, q_isV_eq_1, q_vLoad_eq_1, q_vPick_eq_1, q_ofRow_eq_2, q_pureRow_eq_1, q_pureRow_eq_2, q_Bool_not_true, q_Option_map_some, q_List_map_cons, q_List_map_nil, q_List_take_succ_cons, q_List_take_zero, q_List_drop_zero, q_List_length_cons, true_and, if_true, Int.reduceNeg, BEq.rfl, Nat.reduceAdd, Nat.reduceBEq, Nat.zero_add, Nat.le_refl, q_guardP_eq_1, q_condB_eq_1, q_exK_eq_1, ints_len, lookT_here, lookT_next, Int.cast_ofNat_Int, lookO_here, lookO_next]
  refine call_l c13 ?_ (ha := by rfl)
  simp only [q_wpLs_eq_2, q_wpL_eq_1, q_AOp_dst_eq_7, q_AOp_dst_eq_32, q_exL_eq_7, q_exL_eq_28, q_look_eq_1, q_look_eq_2, q_insT_eq_1, q_insO_eq_1, q_vRow_eq_1, q_vLits_eq_1, q_vLits_eq_2, q_bsK_eq_1, q_freeB_eq_1, q_freeT_eq_1, q_freeT_eq_2, q_freeO_eq_1, q_freeO_eq_2, q_V_noRef_eq_1, q_V_noRef_eq_2, q_V_noRef_eq_4, q_K_noRef_eq_1, q_K_noRef_eq_2, q_K_noRef_eq_3, q_O_noRef_eq_1, q_O_noRef_eq_2, q_V_noRefL_eq_1, q_V_noRefL_eq_2, q_Bool_not_true, q_List_map_cons, q_List_map_nil, q_List_foldl_cons, q_List_foldl_nil, q_List_replicate_succ, q_List_replicate_zero, q_List_set_cons_zero, q_List_length_cons, q_List_length_nil, q_List_all_cons, q_List_all_nil, true_and, forall_eq, or_false, and_self, bne_iff_ne, ne_eq, Bool.and_eq_true, Bool.and_true, Bool.true_and, Bool.or_true, Bool.false_or, Int.reduceNeg, List.mem_cons, Nat.reduceEqDiff, Nat.reduceLT, Nat.reduceBEq, Nat.zero_add, not_false_eq_true, q_guardP_eq_1, q_condB_eq_1, q_exK_eq_1, lookT_here, lookT_next, List.not_mem_nil]
  refine call_s (s22' [0]) ?_ (ha := by rfl)
  simp only [q_wpLs_eq_1, q_wpLs_eq_2, q_wpL_eq_1, q_AOp_dst_eq_1, q_exL_eq_1, q_exL_eq_3, q_look_eq_1, q_look_eq_2, q_insT_eq_1, q_awl_eq_2, q_awl_eq_5, q_awl_eq_10, q_AE_thenL_eq_1, q_putK_eq_1, q_vPick_eq_1, q_mapT_eq_1, q_mapT_eq_2, q_mapO_eq_1, q_mapO_eq_2, q_endK_eq_2, q_endL_eq_1, q_endV_eq_1, q_resL_eq_1, q_resL_eq_2, q_resX_eq_1, q_one_eq_1, q_V_nrm_eq_1, q_V_nrm_eq_2, q_V_nrm_eq_4, q_K_nrm_eq_1, q_K_nrm_eq_3, q_V_nrmL_eq_1, q_V_nrmL_eq_2, q_O_nrm_eq_1, q_O_nrm_eq_2, q_V_owns_eq_1, q_K_owns_eq_2, q_V_toNew_eq_1, q_K_toNew_eq_1, q_C_norm_eq_1, q_C_norm_eq_4, q_C_norm_eq_5, q_C_norm_eq_6, q_C_normRow_eq_1, q_C_normRow_eq_2, q_C_normRows_eq_1, q_C_normRows_eq_2, q_Bool_not_true, q_List_map_cons, q_List_map_nil, q_List_isEmpty_nil, q_List_isEmpty_cons, true_and, if_true, if_false, Bool.false_eq_true, and_self, Int.reduceNeg, List.nodup_nil, Nat.reduceBEq, q_guardP_eq_1, q_condB_eq_1, q_exK_eq_1, normRows_ints, lookT_here, lookT_next, uf14r1, uf14b2]
  exact hS
end Go.Abs

set_option maxRecDepth 100000
set_option maxHeartbeats 4000000
namespace Go.Abs
open Go.Proofs
def ge15 (l : List Int) : Bool := l.any fun v => decide (v ≥ 15)
def anyB (q : Int) (l : List Rule) : Bool := l.any fun r => decide (r.ask = q) && ge15 (varsT r.term)
theorem ge15_drop {l : List Int} {i : Nat} (h : i < l.length) : ge15 (l.drop i) = (decide (l[i] ≥ 15) || ge15 (l.drop (i + 1))) := by
  rw [List.drop_eq_getElem_cons h]; rfl
theorem anyB_drop {l : List Rule} {i : Nat} (h : i < l.length) (q : Int) : anyB q (l.drop i) = ((decide (l[i].ask = q) && ge15 (varsT l[i].term)) || anyB q (l.drop (i + 1))) := by
  rw [List.drop_eq_getElem_cons h]; rfl
theorem s28 (o : Order) (h60 : o.rules.length ≤ 60) : Spec Try.prog 28 [.agg (encOrder o)] (fun r => r = .k (.newl 3 1 none (ints (blindO o)))) := by
  refine Spec.of_awlS hf28 okf28 (by simp) fun S hS => ?_
  simp only [q_wpLs_eq_1, q_wpLs_eq_2, q_wpL_eq_1, q_exL_eq_1, q_exL_eq_2, q_exL_eq_5, q_exL_eq_7, q_look_eq_1, q_look_eq_2, q_insT_eq_1, q_insO_eq_1, q_awl_eq_2, q_awl_eq_5, q_awl_eq_7, q_AE_thenL_eq_1, q_initT_eq_1, q_initT_eq_2, q_boxK_eq_1, q_vLits_eq_1, q_bsK_eq_1, q_freeB_eq_1, q_freeT_eq_1, q_freeT_eq_2, q_freeO_eq_1, q_freeO_eq_2, q_V_noRef_eq_1, q_V_noRef_eq_2, q_K_noRef_eq_2, q_K_noRef_eq_3, q_O_noRef_eq_1, q_O_noRef_eq_2, q_List_map_nil, q_List_foldl_nil, q_List_replicate_zero, q_List_length_cons, q_List_length_nil, true_and, false_implies, implies_true, and_self, bne_iff_ne, ne_eq, Bool.and_eq_true, Bool.and_true, Bool.or_true, Bool.false_or, Nat.reduceEqDiff, Nat.reduceBEq, Nat.zero_add, not_false_eq_true, lookT_here, List.not_mem_nil, implies_true, r_all_noRef, uf28, uf28b43, uf28r44, uf28b45, uf28b46, uf28r47, uf28b48, uf28r49, uf28b50]
  rw [uf28l42]
  refine awl_loop (fun v : Nat => [(1, .k (.ptr 1 0)), (3, .k (.own 9)), (4, .int .i64 v)])
    (fun v => [(1, .var 25 (orV o)), (9, .arr 3 1 (some false) (ints ((upto v).filter fun q => plain q && anyB q o.rules)))]) (fun v => v ≤ 22) (fun v => 22 - v) 0 rfl rfl (Nat.zero_le _) ?_
  intro v hv
  by_cases hlv : v < 22
  · have d1 : (v : Int) < 22 := by omega
    have d4 : IntKind.i64.wrap ((v : Int) + 1) = (v : Int) + 1 := wrap_in (by omega) (by omega)
    simp only [d1, q_wpLs_eq_1, q_wpLs_eq_2, q_wpL_eq_1, q_exL_eq_1, q_exL_eq_11, q_look_eq_1, q_look_eq_2, q_insT_eq_1, q_awl_eq_1, q_awl_eq_2, q_awl_eq_5, q_awl_eq_6, q_awl_eq_7, q_AE_thenL_eq_1, q_putK_eq_1, q_vBin_eq_1, q_resV_eq_1, q_binV_eq_1, q_binInt_eq_3, q_cutInt_eq_8, true_and, if_true, Nat.reduceBEq, q_learn_eq_1, q_condK_eq_1, q_condB_eq_1, decide_true, lookT_here, lookT_next, uf28r3, uf28b30, uf28r31, uf28b32, uf28b33, uf28r34, uf28b35, uf28b36, uf28b37, uf28b38, uf28r39, uf28b40, uf28b41]
    rw [uf28l29]
    refine awl_loop (fun x : Nat × Bool => [(1, .k (.ptr 1 0)), (3, .k (.own 9)), (4, .int .i64 v), (5, .bool x.2), (6, .int .i64 x.1)])
      (fun _ => [(1, .var 25 (orV o)), (9, .arr 3 1 (some false) (ints ((upto v).filter fun q => plain q && anyB q o.rules)))])
      (fun x => x.1 ≤ o.rules.length ∧ (x.2 || anyB v (o.rules.drop x.1)) = anyB v o.rules) (fun x => o.rules.length - x.1) (0, false) rfl rfl ⟨Nat.zero_le _, rfl⟩ ?_
    rintro ⟨i, is⟩ ⟨hi, hj⟩
    simp only [] at hi hj
    by_cases hlt : i < o.rules.length
    · have c1 : (i : Int) < o.rules.length := by omega
      have c4 : IntKind.i64.wrap ((i : Int) + 1) = (i : Int) + 1 := wrap_in (by omega) (by omega)
      rw [anyB_drop hlt] at hj
      simp only [c1, map_at hlt, q_wpLs_eq_1, q_wpLs_eq_2, q_wpL_eq_1, q_exL_eq_1, q_exL_eq_8, q_exL_eq_11, q_exL_eq_21, q_exL_eq_23, q_exL_eq_28, q_exL_eq_30, q_look_eq_1, q_insT_eq_1, q_awl_eq_1, q_awl_eq_2, q_awl_eq_5, q_awl_eq_6, q_awl_eq_7, q_AE_thenL_eq_1, q_putK_eq_1, q_vBin_eq_1, q_resV_eq_1, q_binV_eq_1, q_binInt_eq_3, q_cutInt_eq_8, q_vFaddr_eq_1, q_vFaddr_eq_3, q_partV_eq_1, q_loadO_eq_1, q_isV_eq_1, q_vLoad_eq_1, q_vLoad_eq_2, q_isVarO_eq_1, q_List_map_cons, q_List_map_nil, true_and, if_true, if_false, and_self, Nat.reduceAdd, Nat.reduceEqDiff, Nat.reduceBEq, Nat.succ_ne_self, Nat.zero_add, Int.toNat_natCast, Nat.le_refl, Int.natCast_nonneg, q_learn_eq_1, q_condK_eq_1, q_condB_eq_1, decide_true, r_vLen_lst, r_vIaddr_lst, List.length_map, encOrder_len, lookT_here, lookT_next, lookO_here, g_rule1, f_or3, uf28r8, uf28r21, uf28b22, uf28b23, uf28b24, uf28b25, uf28r26, uf28b27, uf28b28]
      refine call_l (s36 o.rules[i].term) ?_
      simp only [q_wpLs_eq_1, q_wpLs_eq_2, q_wpL_eq_1, q_exL_eq_1, q_look_eq_1, q_look_eq_2, q_insT_eq_1, q_insO_eq_1, q_awl_eq_2, q_awl_eq_5, q_awl_eq_7, q_AE_thenL_eq_1, lookT_here, uf28b18, uf28r19, uf28b20]
      have hvl := vars_le o.rules[i].term
      generalize hl : varsT o.rules[i].term = l at *
      rw [uf28l17]
      refine awl_loop (fun x : Nat × Bool => [(1, .k (.ptr 1 0)), (3, .k (.own 9)), (4, .int .i64 v), (5, .bool x.2), (6, .int .i64 i), (7, .k (.own 27)), (8, .int .i64 x.1)])
        (fun _ => [(1, .var 25 (orV o)), (9, .arr 3 1 (some false) (ints ((upto v).filter fun q => plain q && anyB q o.rules))), (27, .arr 3 1 none (ints l))])
        (fun x => x.1 ≤ l.length ∧ (x.2 || (decide (o.rules[i].ask = v) && ge15 (l.drop x.1))) = (is || (decide (o.rules[i].ask = v) && ge15 l))) (fun x => l.length - x.1) (0, is) rfl rfl ⟨Nat.zero_le _, rfl⟩ ?_
      rintro ⟨k, is2⟩ ⟨hk, hj2⟩
      simp only [] at hk hj2
      by_cases hlk : k < l.length
      · have e1 : (k : Int) < l.length := by omega
        have e4 : IntKind.i64.wrap ((k : Int) + 1) = (k : Int) + 1 := wrap_in (by omega) (by omega)
        rw [ge15_drop hlk] at hj2
        cases is2
        · by_cases hq : o.rules[i].ask = v
          · by_cases h15 : l[k] ≥ 15
            · simp only [e1, e4, c1, map_at hlt, ints_at hlk, hq, h15, q_wpLs_eq_1, q_wpLs_eq_2, q_wpL_eq_1, q_AOp_dst_eq_1, q_AOp_dst_eq_3, q_AOp_dst_eq_8, q_AOp_dst_eq_10, q_AOp_dst_eq_20, q_AOp_dst_eq_22, q_exL_eq_1, q_exL_eq_3, q_exL_eq_8, q_exL_eq_11, q_exL_eq_21, q_exL_eq_23, q_exL_eq_30, q_look_eq_1, q_look_eq_2, q_insT_eq_1, q_awl_eq_1, q_awl_eq_2, q_awl_eq_5, q_awl_eq_6, q_awl_eq_7, q_AE_thenL_eq_1, q_AE_inBlockL_eq_1, q_putK_eq_1, q_vBin_eq_1, q_resV_eq_1, q_binV_eq_1, q_binInt_eq_3, q_cutInt_eq_1, q_cutInt_eq_6, q_cutInt_eq_8, q_cutInt_eq_11, q_vLen_eq_2, q_lenO_eq_1, q_vFaddr_eq_1, q_vFaddr_eq_3, q_partV_eq_2, q_loadO_eq_1, q_loadO_eq_2, q_isV_eq_1, q_isA_eq_1, q_vLoad_eq_1, q_vLoad_eq_2, q_vLoad_eq_3, q_vIaddr_eq_2, q_idxO_eq_1, q_vPick_eq_1, q_isVarO_eq_1, q_Bool_not_true, q_Bool_not_false, q_List_getD_cons_zero, true_and, if_true, if_false, Bool.false_eq_true, and_self, Bool.true_and, BEq.rfl, Nat.reduceAdd, Nat.reduceLeDiff, Nat.reduceBEq, Nat.zero_add, Nat.add_zero, Int.toNat_natCast, Nat.le_refl, Int.natCast_nonneg, q_learn_eq_1, q_guardP_eq_1, q_guardP_eq_2, q_condK_eq_1, q_condB_eq_1, q_condB_eq_2, q_exK_eq_1, decide_true, r_vIaddr_lst, ints_len, List.length_map, encOrder_len, lookT_here, lookT_next, lookO_here, lookO_next, g_rule0, f_or3, uf28r9, uf28r10, uf28b11, uf28b12, uf28b13, uf28r14, uf28b15, uf28b16]
              exact Next.intro (k + 1, true) rfl rfl ⟨by simp only []; omega, by simpa [hq, h15] using hj2⟩ (by simp only []; omega)
            · simp only [e1, e4, c1, map_at hlt, ints_at hlk, hq, h15, q_wpLs_eq_1, q_wpLs_eq_2, q_wpL_eq_1, q_AOp_dst_eq_1, q_AOp_dst_eq_3, q_AOp_dst_eq_8, q_AOp_dst_eq_10, q_AOp_dst_eq_20, q_AOp_dst_eq_22, q_exL_eq_1, q_exL_eq_3, q_exL_eq_8, q_exL_eq_11, q_exL_eq_21, q_exL_eq_23, q_exL_eq_30, q_look_eq_1, q_look_eq_2, q_insT_eq_1, q_awl_eq_1, q_awl_eq_2, q_awl_eq_5, q_awl_eq_6, q_awl_eq_7, q_AE_thenL_eq_1, q_AE_inBlockL_eq_1, q_putK_eq_1, q_vBin_eq_1, q_resV_eq_1, q_binV_eq_1, q_binInt_eq_3, q_cutInt_eq_1, q_cutInt_eq_6, q_cutInt_eq_8, q_cutInt_eq_11, q_vLen_eq_2, q_lenO_eq_1, q_vFaddr_eq_1, q_vFaddr_eq_3, q_partV_eq_2, q_loadO_eq_1, q_loadO_eq_2, q_isV_eq_1, q_isA_eq_1, q_vLoad_eq_1, q_vLoad_eq_2, q_vLoad_eq_3, q_vIaddr_eq_2, q_idxO_eq_1, q_vPick_eq_1, q_isVarO_eq_1, q_Bool_not_true, q_Bool_not_false, q_List_getD_cons_zero, true_and, if_true, if_false, Bool.false_eq_true, and_self, Bool.true_and, BEq.rfl, Nat.reduceAdd, Nat.reduceLeDiff, Nat.reduceBEq, Nat.zero_add, Nat.add_zero, Int.toNat_natCast, Nat.le_refl, Int.natCast_nonneg, q_learn_eq_1, q_guardP_eq_1, q_guardP_eq_2, q_condK_eq_1, q_condB_eq_1, q_condB_eq_2, q_exK_eq_1, decide_true, decide_false, r_vIaddr_lst, ints_len, List.length_map, encOrder_len, lookT_here, lookT_next, lookO_here, lookO_next, g_rule0, f_or3, uf28r9, uf28r10, uf28b11, uf28b12, uf28b13, uf28r14, uf28b15, uf28b16]
              exact Next.intro (k + 1, false) rfl rfl ⟨by simp only []; omega, by simpa [hq, h15] using hj2⟩ (by simp only []; omega)
          · simp only [e1, e4, c1, map_at hlt, ints_at hlk, hq, q_wpLs_eq_1, q_wpLs_eq_2, q_wpL_eq_1, q_putDL_eq_1, q_AOp_dst_eq_1, q_AOp_dst_eq_3, q_AOp_dst_eq_8, q_AOp_dst_eq_10, q_AOp_dst_eq_20, q_AOp_dst_eq_22, q_exL_eq_1, q_exL_eq_3, q_exL_eq_8, q_exL_eq_11, q_exL_eq_21, q_exL_eq_23, q_exL_eq_30, q_look_eq_1, q_look_eq_2, q_insT_eq_1, q_awl_eq_1, q_awl_eq_2, q_awl_eq_5, q_awl_eq_6, q_awl_eq_7, q_AE_thenL_eq_1, q_AE_inBlockL_eq_1, q_putK_eq_1, q_vBin_eq_1, q_resV_eq_1, q_binV_eq_1, q_binInt_eq_3, q_cutInt_eq_1, q_cutInt_eq_6, q_cutInt_eq_8, q_cutInt_eq_11, q_vLen_eq_2, q_lenO_eq_1, q_vFaddr_eq_1, q_vFaddr_eq_3, q_partV_eq_2, q_loadO_eq_1, q_loadO_eq_2, q_isV_eq_1, q_isA_eq_1, q_vLoad_eq_1, q_vLoad_eq_2, q_vLoad_eq_3, q_vIaddr_eq_2, q_idxO_eq_1, q_vPick_eq_1, q_vPick_eq_3, q_isVarO_eq_1, q_Bool_not_true, q_Bool_not_false, q_List_getD_cons_zero, true_and, if_true, if_false, Bool.false_eq_true, false_implies, forall_const, and_self, Nat.reduceAdd, Nat.reduceLeDiff, Nat.reduceBEq, Nat.zero_add, Nat.add_zero, Int.toNat_natCast, Nat.le_refl, Int.natCast_nonneg, q_learn_eq_1, not_false_eq_true, q_guardP_eq_1, q_guardP_eq_2, q_condK_eq_1, q_condB_eq_1, q_condB_eq_2, q_exK_eq_1, condB_beq, decide_true, decide_false, r_vIaddr_lst, ints_len, List.length_map, encOrder_len, lookT_here, lookT_next, lookO_here, lookO_next, g_rule0, f_or3, uf28r9, uf28r10, uf28b11, uf28b12, uf28b13, uf28r14, uf28b15, uf28b16]
            exact Next.intro (k + 1, false) rfl rfl ⟨by simp only []; omega, by simpa [hq] using hj2⟩ (by simp only []; omega)
        · simp only [e1, e4, q_wpLs_eq_1, q_wpLs_eq_2, q_wpL_eq_1, q_putDL_eq_1, q_AOp_dst_eq_1, q_AOp_dst_eq_3, q_AOp_dst_eq_8, q_AOp_dst_eq_10, q_AOp_dst_eq_20, q_AOp_dst_eq_22, q_exL_eq_1, q_exL_eq_3, q_exL_eq_11, q_exL_eq_30, q_look_eq_1, q_look_eq_2, q_insT_eq_1, q_awl_eq_1, q_awl_eq_2, q_awl_eq_5, q_awl_eq_6, q_awl_eq_7, q_AE_thenL_eq_1, q_AE_inBlockL_eq_1, q_putK_eq_1, q_vBin_eq_1, q_resV_eq_1, q_binV_eq_1, q_binInt_eq_3, q_cutInt_eq_1, q_cutInt_eq_8, q_vLen_eq_2, q_lenO_eq_1, q_vPick_eq_2, q_Bool_not_true, q_Bool_not_false, true_and, if_true, Nat.reduceBEq, q_learn_eq_1, q_guardP_eq_2, q_guardP_eq_3, q_condK_eq_1, q_condB_eq_1, decide_true, ints_len, lookT_here, lookT_next, lookO_here, lookO_next, uf28r9, uf28r10, uf28b11, uf28b12, uf28b13, uf28r14, uf28b15, uf28b16]
          exact Next.intro (k + 1, true) rfl rfl ⟨by simp only []; omega, by simpa using hj2⟩ (by simp only []; omega)
      · have e1 : ¬ (k : Int) < l.length := by omega
        rw [List.drop_eq_nil_of_le (by omega)] at hj2
        have hj2 : is2 = (is || (decide (o.rules[i].ask = v) && ge15 l)) := by simpa [ge15] using hj2
        simp only [e1, c4, q_wpLs_eq_1, q_wpLs_eq_2, q_wpL_eq_1, q_exL_eq_1, q_exL_eq_11, q_exL_eq_30, q_look_eq_1, q_look_eq_2, q_insT_eq_1, q_awl_eq_2, q_awl_eq_5, q_awl_eq_6, q_awl_eq_9, q_AE_thenL_eq_1, q_AE_thenL_eq_2, q_AE_inBlockL_eq_1, q_AE_inBlockL_eq_2, q_putK_eq_1, q_vBin_eq_1, q_resV_eq_1, q_binV_eq_1, q_binInt_eq_3, q_cutInt_eq_1, q_cutInt_eq_8, q_vLen_eq_2, q_lenO_eq_1, true_and, if_true, if_false, reduceCtorEq, Nat.reduceEqDiff, Nat.reduceBEq, Nat.succ_ne_self, q_learn_eq_1, q_condK_eq_1, q_condB_eq_2, decide_false, ints_len, lookT_here, lookT_next, lookO_here, lookO_next, uf28b13, uf28r14, uf28b15, uf28b16]
        exact Next.intro (i + 1, is2) rfl rfl ⟨by simp only []; omega, by simp only []; rw [← hj, hj2, Bool.or_assoc]⟩ (by simp only []; omega)
    · have c1 : ¬ (i : Int) < o.rules.length := by omega
      rw [List.drop_eq_nil_of_le (by omega)] at hj
      have hj : is = anyB v o.rules := by simpa [anyB] using hj
      have hu := upto_filter (fun q => plain q && anyB q o.rules) v
      have hle := filter_le (fun q => plain q && anyB q o.rules) v
      cases is
      · simp only [c1, d4, q_wpLs_eq_1, q_wpLs_eq_2, q_wpL_eq_1, q_putDL_eq_1, q_AOp_dst_eq_1, q_AOp_dst_eq_3, q_AOp_dst_eq_10, q_exL_eq_1, q_exL_eq_3, q_exL_eq_8, q_exL_eq_11, q_exL_eq_21, q_exL_eq_30, q_look_eq_1, q_look_eq_2, q_insT_eq_1, q_awl_eq_1, q_awl_eq_2, q_awl_eq_5, q_awl_eq_6, q_awl_eq_9, q_AE_thenL_eq_1, q_AE_thenL_eq_2, q_AE_inBlockL_eq_1, q_AE_inBlockL_eq_2, q_putK_eq_1, q_vBin_eq_1, q_resV_eq_1, q_binV_eq_1, q_binInt_eq_3, q_cutInt_eq_1, q_cutInt_eq_8, q_vFaddr_eq_1, q_loadO_eq_1, q_isV_eq_1, q_vLoad_eq_1, q_vPick_eq_3, q_isVarO_eq_1, q_Bool_not_true, q_Bool_not_false, true_and, if_true, if_false, reduceCtorEq, Nat.reduceAdd, Nat.reduceBEq, Nat.succ_ne_self, Nat.zero_add, Nat.le_refl, q_learn_eq_1, q_guardP_eq_1, q_guardP_eq_3, q_condK_eq_1, q_condB_eq_2, decide_false, r_vLen_lst, List.length_map, encOrder_len, lookT_here, lookT_next, lookO_here, f_or3, uf28r4, uf28b5, uf28r6, uf28b7, uf28b25, uf28r26, uf28b27, uf28b28]
        refine Next.intro (v + 1) rfl ?_ (by omega) (by omega)
        rw [hu, if_neg (by rw [← hj]; simp)]; rfl
      · by_cases h0 : v = 0
        · subst h0
          have d5 : IntKind.i64.wrap 1 = 1 := rfl
          simp only [c1, d5, q_wpLs_eq_1, q_wpLs_eq_2, q_wpL_eq_1, q_putDL_eq_1, q_AOp_dst_eq_1, q_AOp_dst_eq_3, q_AOp_dst_eq_10, q_exL_eq_1, q_exL_eq_3, q_exL_eq_7, q_exL_eq_8, q_exL_eq_11, q_exL_eq_21, q_exL_eq_30, q_exL_eq_33, q_look_eq_1, q_look_eq_2, q_insT_eq_1, q_insO_eq_1, q_awl_eq_2, q_awl_eq_5, q_awl_eq_6, q_awl_eq_9, q_AE_thenL_eq_1, q_AE_thenL_eq_2, q_AE_inBlockL_eq_1, q_AE_inBlockL_eq_2, q_putK_eq_1, q_vBin_eq_1, q_resV_eq_1, q_binV_eq_1, q_binInt_eq_3, q_cutInt_eq_1, q_cutInt_eq_6, q_cutInt_eq_8, q_vFaddr_eq_1, q_loadO_eq_1, q_isV_eq_1, q_vLoad_eq_1, q_vPick_eq_1, q_vPick_eq_2, q_isVarO_eq_1, q_nlApp_eq_2, q_vRow_eq_1, q_vLits_eq_1, q_vLits_eq_2, q_bsK_eq_1, q_srcO_eq_1, q_srcV_eq_2, q_appK_eq_1, q_appendK_eq_1, q_mapT_eq_1, q_mapT_eq_2, q_mapO_eq_1, q_mapO_eq_2, q_delO_eq_1, q_delO_eq_2, q_freeB_eq_1, q_freeT_eq_1, q_freeT_eq_2, q_freeO_eq_1, q_freeO_eq_2, q_V_noRef_eq_1, q_V_noRef_eq_5, q_K_noRef_eq_1, q_K_noRef_eq_2, q_K_noRef_eq_3, q_O_noRef_eq_1, q_O_noRef_eq_2, q_V_scrub_eq_1, q_V_scrub_eq_4, q_K_scrub_eq_1, q_K_scrub_eq_2, q_K_scrub_eq_5, q_O_scrub_eq_1, q_O_scrub_eq_2, q_Bool_not_true, q_Bool_not_false, q_List_map_cons, q_List_map_nil, q_List_foldl_cons, q_List_foldl_nil, q_List_replicate_succ, q_List_replicate_zero, q_List_set_cons_zero, q_List_length_cons, q_List_length_nil, true_and, if_true, if_false, reduceCtorEq, forall_eq, or_false, and_self, bne_iff_ne, ne_eq, Bool.and_eq_true, Bool.and_true, Bool.true_and, Bool.or_true, Bool.false_or, BEq.rfl, List.mem_cons, Nat.reduceAdd, Nat.reduceEqDiff, Nat.reduceLeDiff, Nat.reduceLT, Nat.reduceBEq, Nat.succ_ne_self, Nat.zero_add, Nat.le_refl, q_learn_eq_1, not_false_eq_true, q_guardP_eq_1, q_guardP_eq_2, q_condK_eq_1, q_condB_eq_1, q_condB_eq_2, q_exK_eq_1, decide_false, r_vLen_lst, ints_len, List.length_map, encOrder_len, lookT_here, lookT_next, Int.reduceAdd, Int.cast_ofNat_Int, lookO_here, lookO_next, List.not_mem_nil, f_or3, r_all_noRef, r_map_scrub, uf28r4, uf28b5, uf28r6, uf28b7, uf28b25, uf28r26, uf28b27, uf28b28]
          refine ⟨by omega, by omega, Next.intro (0 + 1) rfl ?_ (by omega) (by omega)⟩
          rw [hu, if_pos (by rw [← hj]; rfl), ints_snoc]; rfl
        by_cases h6 : v = 6
        · subst h6
          have d5 : IntKind.i64.wrap 7 = 7 := rfl
          simp only [c1, d5, q_wpLs_eq_1, q_wpLs_eq_2, q_wpL_eq_1, q_putDL_eq_1, q_AOp_dst_eq_1, q_AOp_dst_eq_3, q_AOp_dst_eq_10, q_exL_eq_1, q_exL_eq_3, q_exL_eq_7, q_exL_eq_8, q_exL_eq_11, q_exL_eq_21, q_exL_eq_30, q_exL_eq_33, q_look_eq_1, q_look_eq_2, q_insT_eq_1, q_insO_eq_1, q_awl_eq_2, q_awl_eq_5, q_awl_eq_6, q_awl_eq_9, q_AE_thenL_eq_1, q_AE_thenL_eq_2, q_AE_inBlockL_eq_1, q_AE_inBlockL_eq_2, q_putK_eq_1, q_vBin_eq_1, q_resV_eq_1, q_binV_eq_1, q_binInt_eq_3, q_cutInt_eq_1, q_cutInt_eq_6, q_cutInt_eq_8, q_vFaddr_eq_1, q_loadO_eq_1, q_isV_eq_1, q_vLoad_eq_1, q_vPick_eq_1, q_vPick_eq_2, q_isVarO_eq_1, q_nlApp_eq_2, q_vRow_eq_1, q_vLits_eq_1, q_vLits_eq_2, q_bsK_eq_1, q_srcO_eq_1, q_srcV_eq_2, q_appK_eq_1, q_appendK_eq_1, q_mapT_eq_1, q_mapT_eq_2, q_mapO_eq_1, q_mapO_eq_2, q_delO_eq_1, q_delO_eq_2, q_freeB_eq_1, q_freeT_eq_1, q_freeT_eq_2, q_freeO_eq_1, q_freeO_eq_2, q_V_noRef_eq_1, q_V_noRef_eq_5, q_K_noRef_eq_1, q_K_noRef_eq_2, q_K_noRef_eq_3, q_O_noRef_eq_1, q_O_noRef_eq_2, q_V_scrub_eq_1, q_V_scrub_eq_4, q_K_scrub_eq_1, q_K_scrub_eq_2, q_K_scrub_eq_5, q_O_scrub_eq_1, q_O_scrub_eq_2, q_Bool_not_true, q_Bool_not_false, q_List_map_cons, q_List_map_nil, q_List_foldl_cons, q_List_foldl_nil, q_List_replicate_succ, q_List_replicate_zero, q_List_set_cons_zero, q_List_length_cons, q_List_length_nil, true_and, if_true, if_false, reduceCtorEq, Bool.false_eq_true, forall_eq, or_false, and_self, bne_iff_ne, ne_eq, Bool.and_eq_true, Bool.and_true, Bool.true_and, Bool.or_true, Bool.false_or, BEq.rfl, List.mem_cons, Nat.reduceAdd, Nat.reduceEqDiff, Nat.reduceLeDiff, Nat.reduceLT, Nat.reduceBEq, Nat.succ_ne_self, Nat.zero_add, Nat.le_refl, q_learn_eq_1, not_false_eq_true, q_guardP_eq_1, q_guardP_eq_2, q_condK_eq_1, q_condB_eq_1, q_condB_eq_2, q_exK_eq_1, decide_false, r_vLen_lst, ints_len, List.length_map, encOrder_len, lookT_here, lookT_next, Int.reduceAdd, Int.reduceBEq, Int.cast_ofNat_Int, lookO_here, lookO_next, List.not_mem_nil, f_or3, r_all_noRef, r_map_scrub, uf28r4, uf28b5, uf28r6, uf28b7, uf28b25, uf28r26, uf28b27, uf28b28]
          refine ⟨by omega, by omega, Next.intro (6 + 1) rfl ?_ (by omega) (by omega)⟩
          rw [hu, if_pos (by rw [← hj]; rfl), ints_snoc]; rfl
        by_cases h7 : v = 7
        · subst h7
          have d5 : IntKind.i64.wrap 8 = 8 := rfl
          simp only [c1, d5, q_wpLs_eq_1, q_wpLs_eq_2, q_wpL_eq_1, q_AOp_dst_eq_1, q_AOp_dst_eq_3, q_AOp_dst_eq_10, q_exL_eq_1, q_exL_eq_3, q_exL_eq_7, q_exL_eq_8, q_exL_eq_11, q_exL_eq_21, q_exL_eq_30, q_exL_eq_33, q_look_eq_1, q_look_eq_2, q_insT_eq_1, q_insO_eq_1, q_awl_eq_2, q_awl_eq_5, q_awl_eq_6, q_awl_eq_9, q_AE_thenL_eq_1, q_AE_thenL_eq_2, q_AE_inBlockL_eq_1, q_AE_inBlockL_eq_2, q_putK_eq_1, q_vBin_eq_1, q_resV_eq_1, q_binV_eq_1, q_binInt_eq_3, q_cutInt_eq_1, q_cutInt_eq_6, q_cutInt_eq_8, q_vFaddr_eq_1, q_loadO_eq_1, q_isV_eq_1, q_vLoad_eq_1, q_vPick_eq_1, q_isVarO_eq_1, q_nlApp_eq_2, q_vRow_eq_1, q_vLits_eq_1, q_vLits_eq_2, q_bsK_eq_1, q_srcO_eq_1, q_srcV_eq_2, q_appK_eq_1, q_appendK_eq_1, q_mapT_eq_1, q_mapT_eq_2, q_mapO_eq_1, q_mapO_eq_2, q_delO_eq_1, q_delO_eq_2, q_freeB_eq_1, q_freeT_eq_1, q_freeT_eq_2, q_freeO_eq_1, q_freeO_eq_2, q_V_noRef_eq_1, q_K_noRef_eq_1, q_K_noRef_eq_2, q_K_noRef_eq_3, q_O_noRef_eq_1, q_O_noRef_eq_2, q_V_scrub_eq_1, q_K_scrub_eq_1, q_K_scrub_eq_2, q_K_scrub_eq_5, q_O_scrub_eq_1, q_O_scrub_eq_2, q_Bool_not_true, q_Bool_not_false, q_List_map_cons, q_List_map_nil, q_List_foldl_cons, q_List_foldl_nil, q_List_replicate_succ, q_List_replicate_zero, q_List_set_cons_zero, q_List_length_cons, q_List_length_nil, true_and, if_true, if_false, reduceCtorEq, Bool.false_eq_true, forall_eq, or_false, and_self, bne_iff_ne, ne_eq, Bool.and_eq_true, Bool.and_true, Bool.true_and, Bool.or_true, Bool.false_or, BEq.rfl, List.mem_cons, Nat.reduceAdd, Nat.reduceEqDiff, Nat.reduceLeDiff, Nat.reduceLT, Nat.reduceBEq, Nat.succ_ne_self, Nat.zero_add, Nat.le_refl, q_learn_eq_1, not_false_eq_true, q_guardP_eq_1, q_guardP_eq_2, q_condK_eq_1, q_condB_eq_1, q_condB_eq_2, q_exK_eq_1, decide_false, r_vLen_lst, ints_len, List.length_map, encOrder_len, lookT_here, lookT_next, Int.reduceAdd, Int.reduceBEq, Int.cast_ofNat_Int, lookO_here, lookO_next, List.not_mem_nil, f_or3, r_all_noRef, r_map_scrub, uf28r4, uf28b5, uf28r6, uf28b7, uf28b25, uf28r26, uf28b27, uf28b28]
          refine ⟨by omega, by omega, Next.intro (7 + 1) rfl ?_ (by omega) (by omega)⟩
          rw [hu, if_pos (by rw [← hj]; rfl), ints_snoc]; rfl
        · have g0 : ¬ (v : Int) = 0 := by omega
          have g6 : ¬ (v : Int) = 6 := by omega
          have g7 : ¬ (v : Int) = 7 := by omega
          have hpl : plain v = false := by simp only [plain, g0, g6, g7, or_self, decide_false]
          simp only [g0, g6, g7, c1, d4, q_wpLs_eq_1, q_wpLs_eq_2, q_wpL_eq_1, q_putDL_eq_1, q_AOp_dst_eq_1, q_AOp_dst_eq_3, q_AOp_dst_eq_10, q_exL_eq_1, q_exL_eq_3, q_exL_eq_7, q_exL_eq_8, q_exL_eq_11, q_exL_eq_21, q_exL_eq_30, q_exL_eq_33, q_look_eq_1, q_look_eq_2, q_insT_eq_1, q_insO_eq_1, q_awl_eq_1, q_awl_eq_2, q_awl_eq_5, q_awl_eq_6, q_awl_eq_9, q_AE_thenL_eq_1, q_AE_thenL_eq_2, q_AE_inBlockL_eq_1, q_AE_inBlockL_eq_2, q_putK_eq_1, q_vBin_eq_1, q_resV_eq_1, q_binV_eq_1, q_binInt_eq_3, q_cutInt_eq_1, q_cutInt_eq_6, q_cutInt_eq_8, q_vFaddr_eq_1, q_loadO_eq_1, q_isV_eq_1, q_vLoad_eq_1, q_vPick_eq_1, q_vPick_eq_2, q_isVarO_eq_1, q_nlApp_eq_2, q_vRow_eq_1, q_vLits_eq_1, q_vLits_eq_2, q_bsK_eq_1, q_srcO_eq_1, q_srcV_eq_2, q_appK_eq_1, q_appendK_eq_1, q_mapT_eq_1, q_mapT_eq_2, q_mapO_eq_1, q_mapO_eq_2, q_delO_eq_1, q_delO_eq_2, q_freeB_eq_1, q_freeT_eq_1, q_freeT_eq_2, q_freeO_eq_1, q_freeO_eq_2, q_V_noRef_eq_1, q_V_noRef_eq_5, q_K_noRef_eq_1, q_K_noRef_eq_2, q_K_noRef_eq_3, q_O_noRef_eq_1, q_O_noRef_eq_2, q_V_scrub_eq_1, q_V_scrub_eq_4, q_K_scrub_eq_1, q_K_scrub_eq_2, q_K_scrub_eq_5, q_O_scrub_eq_1, q_O_scrub_eq_2, q_Bool_not_true, q_Bool_not_false, q_List_map_cons, q_List_map_nil, q_List_foldl_cons, q_List_foldl_nil, q_List_replicate_succ, q_List_replicate_zero, q_List_set_cons_zero, q_List_length_cons, q_List_length_nil, true_and, if_true, if_false, reduceCtorEq, Bool.false_eq_true, false_implies, forall_const, forall_eq, or_false, and_self, bne_iff_ne, ne_eq, Bool.and_eq_true, Bool.and_true, Bool.true_and, Bool.or_true, Bool.false_or, List.mem_cons, Nat.reduceAdd, Nat.reduceEqDiff, Nat.reduceLeDiff, Nat.reduceLT, Nat.reduceBEq, Nat.succ_ne_self, Nat.zero_add, Nat.le_refl, q_learn_eq_1, not_false_eq_true, q_guardP_eq_1, q_guardP_eq_2, q_condK_eq_1, q_condB_eq_1, q_condB_eq_2, q_exK_eq_1, condB_beq, decide_false, r_vLen_lst, ints_len, List.length_map, encOrder_len, lookT_here, lookT_next, lookO_here, lookO_next, List.not_mem_nil, f_or3, r_all_noRef, r_map_scrub, uf28r4, uf28b5, uf28r6, uf28b7, uf28b25, uf28r26, uf28b27, uf28b28]
          refine Next.intro (v + 1) rfl ?_ (by omega) (by omega)
          rw [hu, if_neg (by rw [hpl]; simp)]; rfl
  · have d1 : ¬ (v : Int) < 22 := by omega
    obtain rfl : v = 22 := by omega
    simp only [d1, q_wpLs_eq_1, q_wpLs_eq_2, q_wpL_eq_1, q_exL_eq_1, q_exL_eq_11, q_look_eq_1, q_look_eq_2, q_insT_eq_1, q_awl_eq_2, q_awl_eq_5, q_awl_eq_6, q_awl_eq_9, q_awl_eq_10, q_AE_thenL_eq_1, q_AE_thenL_eq_2, q_AE_inBlockL_eq_2, q_putK_eq_1, q_vBin_eq_1, q_resV_eq_1, q_binV_eq_1, q_binInt_eq_3, q_cutInt_eq_8, q_isArrO_eq_1, q_mapT_eq_1, q_mapT_eq_2, q_mapO_eq_1, q_mapO_eq_2, q_endK_eq_2, q_endL_eq_1, q_endV_eq_1, q_resL_eq_1, q_resL_eq_2, q_resX_eq_1, q_one_eq_1, q_V_nrm_eq_1, q_K_nrm_eq_1, q_K_nrm_eq_3, q_O_nrm_eq_1, q_O_nrm_eq_2, q_V_owns_eq_1, q_K_owns_eq_1, q_V_toNew_eq_1, q_K_toNew_eq_2, q_C_norm_eq_4, q_C_norm_eq_5, true_and, if_true, and_self, List.nodup_nil, List.nodup_cons, Nat.reduceBEq, q_learn_eq_1, not_false_eq_true, q_condK_eq_1, q_condB_eq_2, decide_false, normRows_ints, encOrder_norm, lookT_here, lookT_next, Int.reduceLT, Int.cast_ofNat_Int, lookO_here, lookO_next, List.not_mem_nil, r_map_nrm, uf28r1, uf28b2, uf28b38, uf28r39, uf28b40, uf28b41]
    exact hS
end Go.Abs

set_option maxRecDepth 100000
set_option maxHeartbeats 4000000
namespace Go.Abs
open Go.Proofs
theorem fewO_60 {o : Order} (h : fewO o = true) : o.rules.length ≤ 60 := by
  unfold fewO at h
  split at h
  · simp at h
  · omega
theorem k3 (o other : Order) (q : Int) : Spec Try.prog 3 [.agg (encOrder o), .agg (encOrder other), .int .i64 q] (fun r => r = .bool true) := by
  refine Spec.of_awlS hf3 okf3 (by simp) fun S hS => ?_
  simp only [q_wpLs_eq_1, q_wpLs_eq_2, q_wpL_eq_1, q_exL_eq_1, q_exL_eq_5, q_exL_eq_28, q_look_eq_1, q_look_eq_2, q_insT_eq_1, q_insO_eq_1, q_awl_eq_2, q_awl_eq_5, q_AE_thenL_eq_1, q_initT_eq_1, q_initT_eq_2, q_boxK_eq_1, q_freeB_eq_1, q_freeT_eq_1, q_freeT_eq_2, q_freeO_eq_1, q_freeO_eq_2, q_V_noRef_eq_1, q_V_noRef_eq_2, q_K_noRef_eq_1, q_K_noRef_eq_3, q_O_noRef_eq_1, q_List_map_nil, true_and, bne_iff_ne, ne_eq, Bool.and_true, Bool.or_true, Bool.false_or, Nat.reduceAdd, Nat.reduceEqDiff, Nat.reduceBEq, Nat.zero_add, not_false_eq_true, lookT_here, lookT_next, r_all_noRef, uf3, uf3r17, uf3b18, uf3r19, uf3b20]
  refine call_s s14 ?_
  simp only [q_wpLs_eq_1, q_wpLs_eq_2, q_wpL_eq_1, q_exL_eq_1, q_exL_eq_8, q_exL_eq_28, q_look_eq_1, q_insT_eq_1, q_awl_eq_2, q_awl_eq_5, q_AE_thenL_eq_1, q_putK_eq_1, q_loadO_eq_1, q_isV_eq_1, q_vLoad_eq_1, q_List_map_cons, q_List_map_nil, q_List_drop_zero, true_and, Nat.reduceBEq, Nat.zero_add, Nat.le_refl, List.length_map, r_ofRow_take, encOrder_len, lookT_here, lookT_next, lookO_here, lookO_next, uf3r14, uf3b15, uf3b16]
  refine call_s (s15 o) ?_
  cases h1 : fewO o
  · simp only [h1, q_wpLs_eq_1, q_wpLs_eq_2, q_wpL_eq_1, q_putDL_eq_1, q_AOp_dst_eq_8, q_AOp_dst_eq_14, q_AOp_dst_eq_32, q_exL_eq_1, q_exL_eq_3, q_exL_eq_15, q_look_eq_1, q_look_eq_2, q_insT_eq_1, q_awl_eq_2, q_awl_eq_5, q_awl_eq_6, q_awl_eq_10, q_AE_thenL_eq_1, q_AE_thenL_eq_3, q_putK_eq_1, q_vUn_eq_1, q_unV_eq_2, q_mapC_eq_1, q_vPick_eq_2, q_mapT_eq_1, q_mapT_eq_2, q_mapO_eq_1, q_mapO_eq_2, q_endK_eq_2, q_endL_eq_1, q_endV_eq_1, q_resL_eq_1, q_resL_eq_2, q_resX_eq_1, q_one_eq_1, q_V_nrm_eq_1, q_V_nrm_eq_2, q_V_nrm_eq_5, q_K_nrm_eq_1, q_K_nrm_eq_3, q_O_nrm_eq_1, q_V_owns_eq_1, q_K_owns_eq_2, q_V_toNew_eq_1, q_K_toNew_eq_1, q_C_norm_eq_4, q_C_norm_eq_5, q_Bool_not_false, true_and, and_self, List.nodup_nil, Nat.reduceBEq, q_learn_eq_1, q_guardP_eq_2, q_condK_eq_1, q_condB_eq_1, encOrder_norm, lookT_here, lookT_next, r_map_nrm, uf3r11, uf3b12, uf3b13]
    exact hS
  simp only [h1, q_wpLs_eq_2, q_wpL_eq_1, q_AOp_dst_eq_8, q_AOp_dst_eq_32, q_exL_eq_1, q_exL_eq_8, q_exL_eq_15, q_exL_eq_28, q_look_eq_1, q_insT_eq_1, q_putK_eq_1, q_vUn_eq_1, q_unV_eq_2, q_mapC_eq_1, q_loadO_eq_1, q_isV_eq_1, q_vLoad_eq_1, q_Bool_not_true, q_Bool_not_false, q_List_map_cons, q_List_map_nil, q_List_drop_zero, true_and, Nat.reduceBEq, Nat.zero_add, Nat.le_refl, q_guardP_eq_2, q_condB_eq_2, q_exK_eq_1, List.length_map, r_ofRow_take, encOrder_len, lookT_here, lookT_next, lookO_here]
  refine call_s (s15 other) ?_
  cases h2 : fewO other
  · simp only [h2, q_wpLs_eq_1, q_wpLs_eq_2, q_wpL_eq_1, q_AOp_dst_eq_14, q_exL_eq_1, q_exL_eq_3, q_exL_eq_15, q_look_eq_1, q_look_eq_2, q_insT_eq_1, q_awl_eq_2, q_awl_eq_5, q_awl_eq_6, q_awl_eq_10, q_AE_thenL_eq_1, q_AE_thenL_eq_3, q_putK_eq_1, q_vUn_eq_1, q_unV_eq_2, q_mapC_eq_1, q_vPick_eq_1, q_mapT_eq_1, q_mapT_eq_2, q_mapO_eq_1, q_mapO_eq_2, q_endK_eq_2, q_endL_eq_1, q_endV_eq_1, q_resL_eq_1, q_resL_eq_2, q_resX_eq_1, q_one_eq_1, q_V_nrm_eq_1, q_V_nrm_eq_2, q_K_nrm_eq_1, q_K_nrm_eq_3, q_O_nrm_eq_1, q_V_owns_eq_1, q_K_owns_eq_2, q_V_toNew_eq_1, q_K_toNew_eq_1, q_C_norm_eq_4, q_C_norm_eq_5, q_Bool_not_false, true_and, if_false, Bool.false_eq_true, and_self, List.nodup_nil, Nat.reduceBEq, q_learn_eq_1, q_guardP_eq_2, q_condK_eq_1, q_condB_eq_1, q_condB_eq_2, q_exK_eq_1, encOrder_norm, lookT_here, lookT_next, r_map_nrm, uf3r11, uf3b12, uf3b13]
    exact hS
  simp only [h2, q_wpLs_eq_1, q_wpLs_eq_2, q_wpL_eq_1, q_AOp_dst_eq_14, q_exL_eq_1, q_exL_eq_3, q_exL_eq_15, q_exL_eq_28, q_look_eq_1, q_look_eq_2, q_insT_eq_1, q_awl_eq_1, q_awl_eq_2, q_awl_eq_5, q_awl_eq_6, q_AE_thenL_eq_1, q_putK_eq_1, q_vUn_eq_1, q_unV_eq_2, q_mapC_eq_1, q_vPick_eq_1, q_Bool_not_true, q_Bool_not_false, q_List_map_cons, q_List_map_nil, true_and, if_false, Bool.false_eq_true, Nat.reduceBEq, q_learn_eq_1, q_guardP_eq_2, q_condK_eq_1, q_condB_eq_2, q_exK_eq_1, lookT_here, lookT_next, uf3r9, uf3b10, uf3b13]
  have h60 := fewO_60 h1
  obtain ⟨a, b, hq⟩ : ∃ a b, typeQ q = .tup [.int .i64 a, .bool b] := by
    unfold typeQ
    split
    · exact ⟨_, _, rfl⟩
    · exact ⟨_, _, rfl⟩
  have c16 := s16 q
  have c17 := s17 q
  rw [hq] at c16 c17
  refine call_s c16 ?_
  simp only [q_wpLs_eq_1, q_wpLs_eq_2, q_wpL_eq_1, q_exL_eq_1, q_exL_eq_27, q_exL_eq_28, q_look_eq_1, q_insT_eq_1, q_awl_eq_2, q_awl_eq_5, q_AE_thenL_eq_1, q_putK_eq_1, q_vExtr_eq_1, q_List_map_cons, q_List_map_nil, q_List_getElemQ_cons_zero, q_List_getElemQ_cons_succ, true_and, Nat.reduceBEq, lookT_here, lookT_next, uf3r7, uf3b8]
  refine call_s c17 ?_
  simp only [q_wpLs_eq_1, q_wpLs_eq_2, q_wpL_eq_1, q_exL_eq_1, q_exL_eq_7, q_exL_eq_8, q_exL_eq_27, q_exL_eq_28, q_look_eq_1, q_insT_eq_1, q_insO_eq_1, q_awl_eq_2, q_awl_eq_5, q_AE_thenL_eq_1, q_putK_eq_1, q_vExtr_eq_1, q_loadO_eq_1, q_isV_eq_1, q_vLoad_eq_1, q_vRow_eq_2, q_vLits_eq_1, q_vLits_eq_2, q_bsK_eq_1, q_freeB_eq_1, q_freeT_eq_1, q_freeT_eq_2, q_freeO_eq_1, q_freeO_eq_2, q_V_noRef_eq_1, q_V_noRef_eq_2, q_V_noRef_eq_4, q_K_noRef_eq_1, q_K_noRef_eq_3, q_O_noRef_eq_1, q_V_noRefL_eq_1, q_V_noRefL_eq_2, q_List_map_cons, q_List_map_nil, q_List_drop_zero, q_List_foldl_cons, q_List_foldl_nil, q_List_replicate_succ, q_List_replicate_zero, q_List_set_cons_zero, q_List_set_cons_succ, q_List_length_cons, q_List_length_nil, q_List_getElemQ_cons_zero, q_List_getElemQ_cons_succ, true_and, forall_eq_or_imp, forall_eq, or_false, and_self, bne_iff_ne, ne_eq, Bool.and_eq_true, Bool.and_true, Bool.true_and, Bool.or_true, Bool.false_or, List.mem_cons, Nat.reduceAdd, Nat.reduceEqDiff, Nat.reduceLT, Nat.reduceBEq, Nat.zero_add, Nat.le_refl, not_false_eq_true, List.length_map, r_ofRow_take, encOrder_len, lookT_here, lookT_next, lookO_here, lookO_next, List.not_mem_nil, r_all_noRef, uf3r5, uf3b6]
  refine call_s (s18 [o, other]) ?_
  simp only [pairV, q_wpLs_eq_1, q_wpLs_eq_2, q_wpL_eq_1, q_exL_eq_1, q_exL_eq_7, q_exL_eq_8, q_exL_eq_27, q_exL_eq_28, q_look_eq_1, q_insT_eq_1, q_insO_eq_1, q_awl_eq_2, q_awl_eq_5, q_AE_thenL_eq_1, q_putK_eq_1, q_vExtr_eq_1, q_loadO_eq_1, q_isV_eq_1, q_vLoad_eq_1, q_vRow_eq_2, q_vLits_eq_1, q_vLits_eq_2, q_bsK_eq_1, q_freeB_eq_1, q_freeT_eq_1, q_freeT_eq_2, q_freeO_eq_1, q_freeO_eq_2, q_V_noRef_eq_1, q_V_noRef_eq_2, q_V_noRef_eq_4, q_K_noRef_eq_1, q_K_noRef_eq_2, q_K_noRef_eq_3, q_O_noRef_eq_1, q_O_noRef_eq_2, q_V_noRefL_eq_1, q_V_noRefL_eq_2, q_List_map_cons, q_List_map_nil, q_List_drop_zero, q_List_foldl_cons, q_List_foldl_nil, q_List_replicate_succ, q_List_replicate_zero, q_List_set_cons_zero, q_List_set_cons_succ, q_List_length_cons, q_List_length_nil, q_List_getElemQ_cons_zero, q_List_getElemQ_cons_succ, true_and, forall_eq_or_imp, forall_eq, or_false, and_self, bne_iff_ne, ne_eq, Bool.and_eq_true, Bool.and_true, Bool.true_and, Bool.or_true, Bool.false_or, List.mem_cons, Nat.reduceAdd, Nat.reduceEqDiff, Nat.reduceLT, Nat.reduceBEq, Nat.zero_add, Nat.le_refl, not_false_eq_true, List.length_map, r_ofRow_take, encOrder_len, lookT_here, lookT_next, lookO_here, lookO_next, List.not_mem_nil, r_all_noRef, uf3r3, uf3b4]
  refine call_s (s19 [o, other]) ?_
  simp only [pairV, q_wpLs_eq_1, q_wpLs_eq_2, q_wpLQs_eq_2, q_wpL_eq_1, q_wpLQ_eq_1, q_AOp_dst_eq_1, q_AOp_dst_eq_8, q_AOp_dst_eq_10, q_AOp_dst_eq_11, q_AOp_dst_eq_32, q_exL_eq_1, q_exL_eq_27, q_exLQ_eq_1, q_exLQ_eq_3, q_exLQ_eq_9, q_exLQ_eq_12, q_exLQ_eq_13, q_exLQ_eq_29, q_look_eq_1, q_look_eq_2, q_insT_eq_1, q_awl_eq_3, q_awl_eq_5, q_AE_thenL_eq_1, q_putK_eq_1, q_vBin_eq_1, q_resV_eq_1, q_binV_eq_1, q_binInt_eq_3, q_cutInt_eq_6, q_vBinB_eq_1, q_vExtr_eq_1, q_loadO_eq_1, q_isV_eq_1, q_vLoad_eq_1, q_vPick_eq_1, q_Bool_not_true, q_List_map_cons, q_List_map_nil, q_List_drop_zero, q_List_getElemQ_cons_zero, q_List_getElemQ_cons_succ, true_and, if_true, if_false, Bool.false_eq_true, BEq.rfl, Nat.reduceBEq, Nat.zero_add, Nat.le_refl, q_guardP_eq_1, q_condB_eq_1, q_exKQ_eq_1, List.length_map, r_ofRow_take, encOrder_len, lookT_here, lookT_next, lookO_here, lookO_next, uf3r1, uf3b2]
  refine callQ_s (s20 o) ?_
  simp only [q_wpLQs_eq_2, q_wpLQ_eq_1, q_AOp_dst_eq_8, q_AOp_dst_eq_32, q_exLQ_eq_9, q_exLQ_eq_29, q_look_eq_1, q_insT_eq_1, q_putK_eq_1, q_loadO_eq_1, q_isV_eq_1, q_vLoad_eq_1, q_V_fz_eq_1, q_K_fz_eq_2, q_Bool_not_true, q_List_map_cons, q_List_map_nil, q_List_drop_zero, true_and, Nat.reduceBEq, Nat.zero_add, Nat.le_refl, q_guardP_eq_1, q_condB_eq_1, q_exKQ_eq_1, List.length_map, r_ofRow_take, encOrder_len, lookT_here, lookT_next, lookO_here, lookO_next]
  refine callQ_s (s21 o) ?_
  simp only [q_wpLQs_eq_2, q_wpLQ_eq_1, q_AOp_dst_eq_1, q_AOp_dst_eq_8, q_AOp_dst_eq_10, q_AOp_dst_eq_32, q_exLQ_eq_1, q_exLQ_eq_3, q_exLQ_eq_9, q_exLQ_eq_12, q_exLQ_eq_29, q_look_eq_1, q_look_eq_2, q_insT_eq_1, q_putK_eq_1, q_vBin_eq_1, q_resV_eq_1, q_binV_eq_1, q_binInt_eq_3, q_cutInt_eq_6, q_loadO_eq_1, q_isV_eq_1, q_vLoad_eq_1, q_vPick_eq_1, q_V_fz_eq_1, q_K_fz_eq_2, q_Bool_not_true, q_List_map_cons, q_List_map_nil, q_List_drop_zero, true_and, if_true, BEq.rfl, Nat.reduceBEq, Nat.zero_add, Nat.le_refl, q_guardP_eq_1, q_condB_eq_1, q_exKQ_eq_1, List.length_map, r_ofRow_take, encOrder_len, lookT_here, lookT_next, lookO_here, lookO_next]
  refine callQ_l (s23 o) ?_
  simp only [q_wpLQs_eq_2, q_wpLQ_eq_1, q_AOp_dst_eq_8, q_AOp_dst_eq_32, q_exLQ_eq_9, q_exLQ_eq_29, q_look_eq_1, q_insT_eq_1, q_putK_eq_1, q_loadO_eq_1, q_isV_eq_1, q_vLoad_eq_1, q_V_fz_eq_1, q_K_fz_eq_1, q_Bool_not_true, q_List_map_cons, q_List_map_nil, q_List_drop_zero, true_and, Nat.reduceBEq, Nat.zero_add, Nat.le_refl, q_guardP_eq_1, q_condB_eq_1, q_exKQ_eq_1, List.length_map, r_ofRow_take, encOrder_len, lookT_here, lookT_next, lookO_here, lookO_next]
  refine callQ_l (s24 o) ?_
  simp only [q_wpLQs_eq_2, q_wpLQ_eq_1, q_AOp_dst_eq_32, q_exLQ_eq_29, q_look_eq_1, q_insT_eq_1, q_V_fz_eq_1, q_K_fz_eq_1, q_Bool_not_true, q_List_map_cons, q_List_map_nil, Nat.reduceBEq, q_guardP_eq_1, q_condB_eq_1, q_exKQ_eq_1, lookT_here, lookT_next]
  refine callQ_s (s22' (gapsO o)) ?_
  simp only [q_wpLQs_eq_2, q_wpLQ_eq_1, q_AOp_dst_eq_8, q_AOp_dst_eq_32, q_exLQ_eq_1, q_exLQ_eq_3, q_exLQ_eq_9, q_exLQ_eq_29, q_look_eq_1, q_look_eq_2, q_insT_eq_1, q_putK_eq_1, q_loadO_eq_1, q_isV_eq_1, q_vLoad_eq_1, q_vPick_eq_1, q_V_fz_eq_1, q_K_fz_eq_2, q_Bool_not_true, q_List_map_cons, q_List_map_nil, q_List_drop_zero, true_and, if_true, Nat.reduceBEq, Nat.zero_add, Nat.le_refl, q_guardP_eq_1, q_condB_eq_1, q_exKQ_eq_1, List.length_map, r_ofRow_take, encOrder_len, lookT_here, lookT_next, lookO_here, lookO_next]
  refine callQ_l (s25 o h60) ?_
  simp only [q_wpLQs_eq_2, q_wpLQ_eq_1, q_AOp_dst_eq_8, q_AOp_dst_eq_32, q_exLQ_eq_9, q_exLQ_eq_29, q_look_eq_1, q_insT_eq_1, q_putK_eq_1, q_loadO_eq_1, q_isV_eq_1, q_vLoad_eq_1, q_V_fz_eq_1, q_K_fz_eq_1, q_Bool_not_true, q_List_map_cons, q_List_map_nil, q_List_drop_zero, true_and, Nat.reduceBEq, Nat.zero_add, Nat.le_refl, q_guardP_eq_1, q_condB_eq_1, q_exKQ_eq_1, List.length_map, r_ofRow_take, encOrder_len, lookT_here, lookT_next, lookO_here, lookO_next]
  refine callQ_l (s26 o h60) ?_
  simp only [q_wpLQs_eq_2, q_wpLQ_eq_1, q_AOp_dst_eq_32, q_exLQ_eq_29, q_look_eq_1, q_insT_eq_1, q_V_fz_eq_1, q_K_fz_eq_1, q_Bool_not_true, q_List_map_cons, q_List_map_nil, Nat.reduceBEq, q_guardP_eq_1, q_condB_eq_1, q_exKQ_eq_1, lookT_here, lookT_next]
  refine callQ_s (s22' (usesO o)) ?_
  simp only [q_wpLQs_eq_2, q_wpLQ_eq_1, q_AOp_dst_eq_8, q_AOp_dst_eq_32, q_exLQ_eq_1, q_exLQ_eq_3, q_exLQ_eq_9, q_exLQ_eq_29, q_look_eq_1, q_look_eq_2, q_insT_eq_1, q_putK_eq_1, q_loadO_eq_1, q_isV_eq_1, q_vLoad_eq_1, q_vPick_eq_1, q_V_fz_eq_1, q_K_fz_eq_2, q_Bool_not_true, q_List_map_cons, q_List_map_nil, q_List_drop_zero, true_and, if_true, Nat.reduceBEq, Nat.zero_add, Nat.le_refl, q_guardP_eq_1, q_condB_eq_1, q_exKQ_eq_1, List.length_map, r_ofRow_take, encOrder_len, lookT_here, lookT_next, lookO_here, lookO_next]
  refine callQ_l (s27 o h60) ?_
  simp only [q_wpLQs_eq_2, q_wpLQ_eq_1, q_AOp_dst_eq_8, q_AOp_dst_eq_32, q_exLQ_eq_9, q_exLQ_eq_29, q_look_eq_1, q_insT_eq_1, q_putK_eq_1, q_loadO_eq_1, q_isV_eq_1, q_vLoad_eq_1, q_V_fz_eq_1, q_K_fz_eq_1, q_Bool_not_true, q_List_map_cons, q_List_map_nil, q_List_drop_zero, true_and, Nat.reduceBEq, Nat.zero_add, Nat.le_refl, q_guardP_eq_1, q_condB_eq_1, q_exKQ_eq_1, List.length_map, r_ofRow_take, encOrder_len, lookT_here, lookT_next, lookO_here, lookO_next]
  refine callQ_l (s28 o h60) ?_
  simp only [q_wpLQs_eq_2, q_wpLQ_eq_1, q_AOp_dst_eq_32, q_exLQ_eq_29, q_look_eq_1, q_insT_eq_1, q_V_fz_eq_1, q_K_fz_eq_1, q_Bool_not_true, q_List_map_cons, q_List_map_nil, Nat.reduceBEq, q_guardP_eq_1, q_condB_eq_1, q_exKQ_eq_1, lookT_here, lookT_next]
  refine callQ_s (s22' (blindO o)) ?_
  simp only [q_wpLQs_eq_1, q_wpLQs_eq_2, q_wpLQ_eq_1, q_exLQ_eq_1, q_exLQ_eq_3, q_look_eq_1, q_look_eq_2, q_insT_eq_1, q_awl_eq_10, q_putK_eq_1, q_vPick_eq_1, q_mapT_eq_1, q_mapT_eq_2, q_mapO_eq_1, q_mapO_eq_2, q_endK_eq_2, q_endL_eq_1, q_endV_eq_1, q_resL_eq_1, q_resL_eq_2, q_resX_eq_1, q_one_eq_1, q_V_nrm_eq_1, q_V_nrm_eq_2, q_V_nrm_eq_4, q_K_nrm_eq_1, q_K_nrm_eq_3, q_V_nrmL_eq_1, q_V_nrmL_eq_2, q_O_nrm_eq_1, q_O_nrm_eq_2, q_V_owns_eq_1, q_K_owns_eq_2, q_V_toNew_eq_1, q_K_toNew_eq_1, q_C_norm_eq_1, q_C_norm_eq_4, q_C_norm_eq_5, q_C_normRows_eq_1, q_C_normRows_eq_2, q_V_fz_eq_1, q_K_fz_eq_2, true_and, if_true, and_self, List.nodup_nil, Nat.reduceBEq, normRows_ints, encOrder_norm, lookT_here, lookT_next, r_map_nrm]
  exact hS
end Go.Abs

/- CheckTells: for every order, every other order and every number the law returns true, and its arguments read as they did; no condition. -/
set_option maxRecDepth 100000
namespace Go.Proofs.Ytckobjgahmmkaaa
open Go.Abs Go.RowKit
theorem own : ownKnob Try.prog.godebug = none := by kernel_rfl
theorem kids : Kids Try.prog (· < Try.prog.types.size) := kids_rows (by kernel_rfl) (by kernel_rfl)
theorem full : ∀ t e, t < Try.prog.types.size → Try.prog.underlying t = some (.slice e) → 0 < Try.prog.cellsOf e := slices_full_of Try.prog (by kernel_rfl)
def plainTs : List TypeId := [3, 4, 9, 22, 23, 25, 39, 41, 43, 45]
theorem plainTs_ok : plainT Try.prog plainTs = true := by kernel_rfl
theorem plainTs_lt : ∀ t ∈ plainTs, t < Try.prog.types.size := by
  have : plainTs.all (fun t => decide (t < Try.prog.types.size)) = true := by kernel_rfl
  simpa using this
theorem tt : TermTypes Try.prog 3 4 9 41 39 43 23 45 22 25 where
  i := Try.underlying3
  b := Try.underlying4
  s := Try.underlying9
  t := ⟨_, Try.underlying41, rfl⟩
  lt := ⟨Try.underlying39, by kernel_rfl⟩
  r := ⟨_, Try.underlying43, rfl⟩
  lr := ⟨Try.underlying23, by kernel_rfl⟩
  c := ⟨_, Try.underlying45, rfl⟩
  lc := ⟨Try.underlying22, by kernel_rfl⟩
  o := ⟨_, Try.underlying25, rfl⟩
theorem spec3 (xs : List V) (h : ArgsOf Try.prog [25, 25, 3] xs) : Go.Abs.Spec Try.prog 3 xs (fun r => r = .bool true) := by
  match xs, h with
  | [a, b, c], ⟨⟨_, _, h1, e1⟩, ⟨_, _, h2, e2⟩, ⟨_, _, h3, e3⟩, _⟩ =>
    obtain ⟨o, ho⟩ := arg_order tt h1
    obtain ⟨o', ho'⟩ := arg_order tt h2
    obtain ⟨q, hq, _⟩ := arg_int tt.i h3
    rw [e1, e2, e3, ho, ho', hq]
    exact k3 o o' q
theorem lifted3 (os : Os) (started : os.Started) (H : Type) (enc : TypeId × Value → H) :
    ReturnsInHanded {} Try.checked os 3 .any (Rows.checkTellsSpec.pre6 enc Try.prog Try.f3 Rows.checkTellsRow.domain false) (Rows.checkTellsSpec.post enc Try.prog Try.f3 Rows.checkTellsRow.apart Rows.checkTellsRow.fresh Rows.checkTellsRow.handsOn Rows.checkTellsRow.again) := by
  refine law_lifted (C := Try.checked) (T := plainTs) (tb := 4) own started (by kernel_rfl) Try.func3 ?_ plainTs_ok plainTs_lt ?_ kids full rfl ?_ ?_ Try.underlying4 ?_
  · exact ChangeSpec.witness6 (enc := enc) (C := Try.checked) false ⟨#[], #[.agg #[.string ⟨#[]⟩, .bool false, .slice none 0 0, .slice none 0 0], .agg #[.string ⟨#[]⟩, .bool false, .slice none 0 0, .slice none 0 0], .int .i64 0], []⟩ 8 (by kernel_rfl) (by kernel_rfl) (by kernel_rfl) (by kernel_rfl)
  · rw [Try.params3]; decide
  · intro ds hds
    rw [Try.params3] at hds
    match ds, hds with
    | [a, b, c], _ => rfl
  · kernel_rfl
  · intro xs hxs
    rw [Try.params3] at hxs
    exact spec3 xs hxs
theorem CheckTells_holds : Rows.CheckTellsSaid :=
  OpenClaim.holds_of_wide 3 Try.f3 rfl rfl rfl rfl rfl rfl rfl ⟨rfl, rfl, rfl, rfl, rfl⟩ rfl rfl rfl rfl rfl (by kernel_rfl) Try.func3 (by kernel_rfl)
    (of_decide_eq_true (by kernel_rfl)) (by unfold Func.isWrapper; first | (rw [if_pos (by decide +kernel)]; kernel_rfl) | (rw [if_neg (by decide +kernel)]; exact ⟨rfl, rfl⟩))
    (fun os started H enc _ => lifted3 os started H enc)
end Go.Proofs.Ytckobjgahmmkaaa
