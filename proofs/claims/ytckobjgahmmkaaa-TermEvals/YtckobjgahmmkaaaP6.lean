/- A part of the proof; the last text states what is proved. -/
import Derived.Test.YtckobjgahmmkaaaP5
import Derived.Test.YtckobjgahmmkaaaRows
import Derived.ProofKit
import Derived.DataShut
set_option linter.unusedVariables false
set_option linter.unusedSimpArgs false
set_option maxRecDepth 100000
set_option maxHeartbeats 4000000
namespace Go.Abs
open Go.Proofs
theorem Spec.of_awlP {P : Program} {f : FuncId} {n : Nat} {c : AQ} {rs : List RX} {args : List V} {X : V} (hc : cFunc P f = some ⟨n, c.erase, rs⟩) (hok : c.ok = true) (hlen : args.length ≤ n)
    (h : ∀ S : V → Prop, (∀ r, r.fz.nrm = X → S r) → awl P c (endK rs S) (initT 0 args) []) : Spec P f args (fun r => r = X) :=
  (Spec.of_awl hc hok hlen (h (fun r => r.fz.nrm = X) fun _ h => h)).plain.mono (by rintro r' ⟨r, h, rfl⟩; exact h)
theorem wt_args {t : Term} {k : Int} (h : WT t k) (h3 : 3 ≤ t.op) : t.op ≤ 13 ∧ (t.args.length : Int) = arity t.op ∧ (∀ a ∈ t.args, ∃ k', WT a k') ∧ ((t.op = 3 ∨ t.op = 6) → ∀ h : 0 < t.args.length, WT t.args[0] 1) := by
  cases h with
  | int => simp [Term.op] at h3
  | bool => simp [Term.op] at h3
  | var => simp [Term.op] at h3
  | not a wa => exact ⟨by simp [Term.op], by simp [Term.op, Term.args, arity], by simp only [Term.args, List.mem_singleton, forall_eq]; exact ⟨_, wa⟩, fun _ _ => wa⟩
  | andor o a b ho wa wb => exact ⟨by simp only [Term.op]; omega, by rcases ho with rfl | rfl <;> simp [Term.op, Term.args, arity], by simp only [Term.args, List.mem_cons, List.not_mem_nil, or_false, forall_eq_or_imp, forall_eq]; exact ⟨⟨_, wa⟩, ⟨_, wb⟩⟩, fun h => by simp only [Term.op] at h; omega⟩
  | ite a b c k wa wb wc => exact ⟨by simp [Term.op], by simp [Term.op, Term.args, arity], by simp only [Term.args, List.mem_cons, List.not_mem_nil, or_false, forall_eq_or_imp, forall_eq]; exact ⟨⟨_, wa⟩, ⟨_, wb⟩, ⟨_, wc⟩⟩, fun _ _ => wa⟩
  | less a b wa wb => exact ⟨by simp [Term.op], by simp [Term.op, Term.args, arity], by simp only [Term.args, List.mem_cons, List.not_mem_nil, or_false, forall_eq_or_imp, forall_eq]; exact ⟨⟨_, wa⟩, ⟨_, wb⟩⟩, fun h => by simp [Term.op] at h⟩
  | eq a b k wa wb => exact ⟨by simp [Term.op], by simp [Term.op, Term.args, arity], by simp only [Term.args, List.mem_cons, List.not_mem_nil, or_false, forall_eq_or_imp, forall_eq]; exact ⟨⟨_, wa⟩, ⟨_, wb⟩⟩, fun h => by simp [Term.op] at h⟩
  | ar o a b h9 h13 wa wb => exact ⟨h13, by have e : arity o = 2 := by { unfold arity; rw [if_neg (by omega), if_neg (by omega), if_neg (by omega)] }
                                            simp [Term.op, Term.args, e], by simp only [Term.args, List.mem_cons, List.not_mem_nil, or_false, forall_eq_or_imp, forall_eq]; exact ⟨⟨_, wa⟩, ⟨_, wb⟩⟩, fun h => by simp only [Term.op] at h; omega⟩
theorem wt_low {t : Term} {k : Int} (h : WT t k) : 0 ≤ t.op ∧ (t.op = 2 → 0 ≤ t.n ∧ t.n < 20) := by
  cases h <;> simp only [Term.op, Term.n] <;> refine ⟨by omega, fun h => by omega⟩
theorem vr_in {k : Int} {c : Cell} (h : VR k c) : inN c.n := by
  unfold VR at h
  split at h
  · exact h.1
  · rw [h]; simp [inN]
def part {α : Type} (f : α → List C) (z : List C) (l : List α) (i : Nat) : List (List C) := (l.take i).map f ++ List.replicate (l.length - i) z
theorem part_set {α : Type} (f : α → List C) (z : List C) (l : List α) {i : Nat} (h : i < l.length) : (part f z l i).set i (f l[i]) = part f z l (i + 1) := by
  obtain ⟨m, hm⟩ : ∃ m, l.length - i = m + 1 := ⟨l.length - i - 1, by omega⟩
  have hm2 : l.length - (i + 1) = m := by omega
  have hl : ((l.take i).map f).length = i := by simp; omega
  unfold part
  rw [hm, hm2, List.replicate_succ, List.set_append_right _ _ (by omega), hl, Nat.sub_self, List.set_cons_zero, List.take_add_one, List.getElem?_eq_getElem h, List.map_append]
  simp only [Option.toList_some, List.map_cons, List.map_nil, List.append_assoc, List.cons_append, List.nil_append]
theorem part_len {α : Type} (f : α → List C) (z : List C) (l : List α) (i : Nat) (h : i ≤ l.length) : (part f z l i).length = l.length := by simp [part]; omega
theorem part_all {α : Type} (f : α → List C) (z : List C) (l : List α) : part f z l l.length = l.map f := by simp [part]
theorem part_0 {α : Type} (f : α → List C) (z : List C) (l : List α) : part f z l 0 = List.replicate l.length z := by simp [part]
def evR (cells : List Cell) (a : Term) : List C := encCell (eval a cells)
def rnR (cells : List Cell) (a : Term) : List C := encL (runN a cells)
theorem map_evR (cells : List Cell) (l : List Term) : l.map (evR cells) = (l.map fun a => eval a cells).map encCell := by simp [evR]
theorem map_rnR (cells : List Cell) (l : List Term) : l.map (rnR cells) = (l.map fun a => runN a cells).map encL := by simp [rnR]
theorem szL_mem : ∀ {l : List Term} {x : Term}, x ∈ l → szT x ≤ szL l
  | a :: l, x, h => by
    rw [szL]
    rcases List.mem_cons.1 h with rfl | h
    · omega
    · have := szL_mem h; omega
theorem flat_sz (cells : List Cell) : ∀ (l : List Term), (∀ x ∈ l, (runN x cells).length ≤ szT x) → (l.map fun a => runN a cells).flatten.length ≤ szL l
  | [], _ => by simp
  | a :: l, h => by
    have h1 := h a (by simp)
    have h2 := flat_sz cells l fun x hx => h x (by simp [hx])
    rw [List.map_cons, List.flatten_cons, List.length_append, szL]; omega
theorem rn_len (cells : List Cell) : ∀ (t : Term), (runN t cells).length ≤ szT t := by
  have main : ∀ t : Term, (∀ x ∈ t.args, (runN x cells).length ≤ szT x) → (runN t cells).length ≤ szT t := by
    intro t ih
    have hf := flat_sz cells t.args ih
    rw [runN_eq, szT_eq]
    split
    · simp
    · split
      · split <;> simp <;> omega
      · split
        · rw [List.getD_eq_getElem?_getD, List.getElem?_map]
          cases he : t.args[(2 - ((t.args.map fun a => eval a cells).getD 0 ⟨false, 0⟩).n).toNat]? with
          | none => simp
          | some x =>
            have hm := List.mem_of_getElem? he
            have := ih x hm
            have := szL_mem hm
            simp only [Option.map_some, Option.getD_some]; omega
        · split
          · simp
          · omega
  exact Term.ind fun o n a ih => main _ ih
def runV (t : Term) (cells : List Cell) : V := .tup [.agg (encCell (eval t cells)), .k (.c (lstC 1 (ints (runN t cells))))]
theorem fin_run {S : V → Prop} {X : V} (h : ∀ r, r.fz.nrm = X → S r) {k : Bool} {n : Int} {v : V} {c : Cell} {l : List Int} (hX : X = .tup [.agg (encCell c), .k (.c (lstC 1 (ints l)))]) (e1 : Cell.mk k n = c) (e2 : v.fz.nrm = .k (.c (lstC 1 (ints l)))) : S (.tup [.agg [.bool k, .int .i64 n], v]) := by
  refine h _ ?_
  subst e1
  simp only [V.fz, V.fzL, V.nrm, V.nrmL, e2, hX, C.normRow, norm_bool, norm_int, encCell]
theorem s64 : ∀ (t : Term) (k : Int), WT t k → szT t ≤ 1000000 → ∀ cells : List Cell, Spec Try.prog 64 [.agg [lstC 2 (cells.map encCell)], .agg (encT t)] (fun r => r = runV t cells) := by
  have main : ∀ t : Term, (∀ x ∈ t.args, ∀ (k : Int), WT x k → szT x ≤ 1000000 → ∀ cells : List Cell, Spec Try.prog 64 [.agg [lstC 2 (cells.map encCell)], .agg (encT x)] (fun r => r = runV x cells)) →
      ∀ (k : Int), WT t k → szT t ≤ 1000000 → ∀ cells : List Cell, Spec Try.prog 64 [.agg [lstC 2 (cells.map encCell)], .agg (encT t)] (fun r => r = runV t cells) := by
    intro t ih k hw hsz cells
    obtain ⟨w1, w2⟩ := wt_low hw
    refine Spec.of_awlP hf64 okf64 (by simp) fun S hS => ?_
    by_cases h0 : t.op = 0
    · simp only [encT_eq, h0, q_wpLs_eq_1, q_wpLs_eq_2, q_wpL_eq_1, q_exL_eq_1, q_exL_eq_2, q_exL_eq_4, q_exL_eq_5, q_exL_eq_6, q_exL_eq_8, q_exL_eq_9, q_exL_eq_11, q_exL_eq_21, q_look_eq_1, q_look_eq_2, q_insT_eq_1, q_insO_eq_1, q_awl_eq_1, q_awl_eq_2, q_awl_eq_5, q_awl_eq_6, q_awl_eq_7, q_awl_eq_10, q_AE_thenL_eq_1, q_AE_thenL_eq_3, q_AE_inBlockL_eq_3, q_initT_eq_1, q_initT_eq_2, q_putK_eq_1, q_vBin_eq_1, q_resV_eq_1, q_binV_eq_1, q_binInt_eq_3, q_cutInt_eq_6, q_vFaddr_eq_1, q_loadO_eq_1, q_isV_eq_1, q_vLoad_eq_1, q_vBuild_eq_1, q_vBuild_eq_2, q_rowV_eq_1, q_ofRow_eq_1, q_ofRow_eq_2, q_pureRow_eq_1, q_pureRow_eq_2, q_V_cells_eq_1, q_V_cells_eq_2, q_splice_eq_1, q_isVarO_eq_1, q_isArrO_eq_1, q_boxK_eq_1, q_stVarK_eq_1, q_storeK_eq_1, q_mapT_eq_1, q_mapT_eq_2, q_mapO_eq_1, q_mapO_eq_2, q_freeB_eq_1, q_freeT_eq_1, q_freeT_eq_2, q_freeO_eq_1, q_freeO_eq_2, q_V_noRef_eq_1, q_V_noRef_eq_2, q_K_noRef_eq_1, q_K_noRef_eq_2, q_K_noRef_eq_3, q_O_noRef_eq_1, q_O_noRef_eq_2, q_endK_eq_2, q_endL_eq_1, q_endV_eq_1, q_resL_eq_1, q_resL_eq_2, q_resX_eq_1, q_resX_eq_2, q_resCell_eq_1, q_one_eq_2, q_V_nrm_eq_1, q_V_nrm_eq_2, q_K_nrm_eq_1, q_K_nrm_eq_3, q_O_nrm_eq_1, q_O_nrm_eq_2, q_V_owns_eq_1, q_V_owns_eq_3, q_V_owns_eq_4, q_K_owns_eq_1, q_V_ownsL_eq_1, q_V_ownsL_eq_2, q_V_toNew_eq_1, q_V_toNew_eq_2, q_V_toNew_eq_4, q_K_toNew_eq_2, q_V_toNewL_eq_1, q_V_toNewL_eq_2, q_C_norm_eq_4, q_C_norm_eq_5, q_C_normRow_eq_1, q_C_normRow_eq_2, q_C_normRows_eq_1, q_Option_map_some, q_List_map_cons, q_List_map_nil, q_List_take_succ_cons, q_List_take_zero, q_List_drop_succ_cons, q_List_drop_zero, q_List_nil_append, q_List_cons_append, q_List_length_cons, q_List_length_nil, q_List_all_cons, q_List_all_nil, true_and, if_true, if_false, Bool.false_eq_true, and_self, bne_iff_ne, ne_eq, Bool.and_eq_true, Bool.and_true, Bool.true_and, Bool.or_true, Bool.true_or, Bool.false_or, BEq.rfl, List.append_nil, List.nodup_nil, List.nodup_cons, Nat.reduceAdd, Nat.reduceEqDiff, Nat.reduceLeDiff, Nat.reduceLT, Nat.reduceBEq, Nat.zero_add, Nat.add_zero, Nat.le_refl, q_learn_eq_1, not_false_eq_true, q_condK_eq_1, q_condB_eq_1, norm_lst, normRows_T, normRows_Ce, lookT_here, lookT_next, lookO_here, lookO_next, List.not_mem_nil, uf64, uf64r38, uf64b39, uf64b53, uf64r54, uf64b55, uf64r56, uf64b57, uf64b58, uf64b59, uf64r60, uf64b61, uf64b62, uf64r63, uf64b64]
      exact fin_run hS rfl (by rw [eval_eq]; simp [h0]) (by rw [runN_eq]; simp only [h0]; rfl)
    by_cases h1 : t.op = 1
    · simp only [encT_eq, h1, q_wpLs_eq_1, q_wpLs_eq_2, q_wpL_eq_1, q_exL_eq_1, q_exL_eq_2, q_exL_eq_4, q_exL_eq_5, q_exL_eq_6, q_exL_eq_8, q_exL_eq_9, q_exL_eq_11, q_exL_eq_21, q_look_eq_1, q_look_eq_2, q_insT_eq_1, q_insO_eq_1, q_awl_eq_2, q_awl_eq_5, q_awl_eq_6, q_awl_eq_7, q_awl_eq_10, q_AE_thenL_eq_1, q_AE_thenL_eq_3, q_AE_inBlockL_eq_3, q_initT_eq_1, q_initT_eq_2, q_putK_eq_1, q_vBin_eq_1, q_resV_eq_1, q_binV_eq_1, q_binInt_eq_3, q_cutInt_eq_6, q_vFaddr_eq_1, q_loadO_eq_1, q_isV_eq_1, q_vLoad_eq_1, q_vBuild_eq_1, q_vBuild_eq_2, q_rowV_eq_1, q_ofRow_eq_1, q_ofRow_eq_2, q_pureRow_eq_1, q_pureRow_eq_2, q_V_cells_eq_1, q_V_cells_eq_2, q_splice_eq_1, q_isVarO_eq_1, q_isArrO_eq_1, q_boxK_eq_1, q_stVarK_eq_1, q_storeK_eq_1, q_mapT_eq_1, q_mapT_eq_2, q_mapO_eq_1, q_mapO_eq_2, q_freeB_eq_1, q_freeT_eq_1, q_freeT_eq_2, q_freeO_eq_1, q_freeO_eq_2, q_V_noRef_eq_1, q_V_noRef_eq_2, q_K_noRef_eq_1, q_K_noRef_eq_2, q_K_noRef_eq_3, q_O_noRef_eq_1, q_O_noRef_eq_2, q_endK_eq_2, q_endL_eq_1, q_endV_eq_1, q_resL_eq_1, q_resL_eq_2, q_resX_eq_1, q_resX_eq_2, q_resCell_eq_1, q_one_eq_2, q_V_nrm_eq_1, q_V_nrm_eq_2, q_K_nrm_eq_1, q_K_nrm_eq_3, q_O_nrm_eq_1, q_O_nrm_eq_2, q_V_owns_eq_1, q_V_owns_eq_3, q_V_owns_eq_4, q_K_owns_eq_1, q_V_ownsL_eq_1, q_V_ownsL_eq_2, q_V_toNew_eq_1, q_V_toNew_eq_2, q_V_toNew_eq_4, q_K_toNew_eq_2, q_V_toNewL_eq_1, q_V_toNewL_eq_2, q_C_norm_eq_4, q_C_norm_eq_5, q_C_normRow_eq_1, q_C_normRow_eq_2, q_C_normRows_eq_1, q_Option_map_some, q_List_map_cons, q_List_map_nil, q_List_take_succ_cons, q_List_take_zero, q_List_drop_succ_cons, q_List_drop_zero, q_List_nil_append, q_List_cons_append, q_List_length_cons, q_List_length_nil, q_List_all_cons, q_List_all_nil, true_and, if_true, if_false, Bool.false_eq_true, and_self, bne_iff_ne, ne_eq, Bool.and_eq_true, Bool.and_true, Bool.true_and, Bool.or_true, Bool.true_or, Bool.false_or, BEq.rfl, List.append_nil, List.nodup_nil, List.nodup_cons, Nat.reduceAdd, Nat.reduceEqDiff, Nat.reduceLeDiff, Nat.reduceLT, Nat.reduceBEq, Nat.zero_add, Nat.add_zero, Nat.le_refl, q_learn_eq_1, not_false_eq_true, q_condK_eq_1, q_condB_eq_1, q_condB_eq_2, norm_lst, normRows_T, normRows_Ce, lookT_here, lookT_next, Int.reduceBEq, lookO_here, lookO_next, List.not_mem_nil, uf64, uf64r38, uf64b39, uf64b53, uf64r54, uf64b55, uf64r56, uf64b57, uf64b58, uf64b59, uf64r60, uf64b61, uf64b62, uf64r63, uf64b64]
      exact fin_run hS rfl (by rw [eval_eq]; simp [h1]) (by rw [runN_eq]; simp only [h1]; rfl)
    by_cases h2 : t.op = 2
    · obtain ⟨n0, n20⟩ := w2 h2
      have ee : eval t cells = valueC t.n cells := by rw [eval_eq]; simp [h2]
      have er : runN t cells = if (valueC t.n cells).known = true then [] else [t.n] := by rw [runN_eq]; simp only [h2]; rfl
      simp only [encT_eq, h2, q_wpLs_eq_1, q_wpLs_eq_2, q_wpL_eq_1, q_exL_eq_1, q_exL_eq_2, q_exL_eq_4, q_exL_eq_5, q_exL_eq_8, q_exL_eq_11, q_exL_eq_21, q_exL_eq_28, q_look_eq_1, q_look_eq_2, q_insT_eq_1, q_insO_eq_1, q_awl_eq_2, q_awl_eq_5, q_awl_eq_6, q_awl_eq_7, q_AE_thenL_eq_1, q_initT_eq_1, q_initT_eq_2, q_putK_eq_1, q_vBin_eq_1, q_resV_eq_1, q_binV_eq_1, q_binInt_eq_3, q_cutInt_eq_6, q_vFaddr_eq_1, q_loadO_eq_1, q_isV_eq_1, q_vLoad_eq_1, q_ofRow_eq_1, q_pureRow_eq_1, q_pureRow_eq_2, q_isVarO_eq_1, q_boxK_eq_1, q_freeB_eq_1, q_freeT_eq_1, q_freeT_eq_2, q_freeO_eq_1, q_freeO_eq_2, q_V_noRef_eq_1, q_V_noRef_eq_2, q_K_noRef_eq_1, q_K_noRef_eq_3, q_O_noRef_eq_1, q_Option_map_some, q_List_map_cons, q_List_map_nil, q_List_take_succ_cons, q_List_take_zero, q_List_drop_succ_cons, q_List_drop_zero, q_List_length_cons, q_List_length_nil, q_List_all_cons, q_List_all_nil, true_and, if_true, if_false, Bool.false_eq_true, and_self, bne_iff_ne, ne_eq, Bool.and_eq_true, Bool.and_true, Bool.or_true, Bool.false_or, BEq.rfl, Nat.reduceAdd, Nat.reduceEqDiff, Nat.reduceLeDiff, Nat.reduceBEq, Nat.zero_add, Nat.add_zero, Nat.le_refl, q_learn_eq_1, not_false_eq_true, q_condK_eq_1, q_condB_eq_1, q_condB_eq_2, lookT_here, lookT_next, Int.reduceBEq, lookO_here, lookO_next, uf64, uf64r47, uf64b48, uf64b49, uf64b50, uf64r51, uf64b52, uf64b53, uf64r54, uf64b55, uf64r56, uf64b57, uf64b58, uf64b59, uf64r60, uf64b61, uf64b62, uf64r63, uf64b64]
      refine call_r (s76 t.n cells n0 n20) ?_ (ha := by simp [lendL, lendO, lookO, V.norm, norm_list, lst, machV])
      obtain ⟨vk, vn, hv⟩ : ∃ k n, valueC t.n cells = Cell.mk k n := ⟨_, _, rfl⟩
      have hvr := VR.value (cells := cells) n0 n20
      rw [hv] at ee er hvr ⊢
      cases vk
      · simp only [encCV, encCell, q_wpLs_eq_1, q_wpLs_eq_2, q_wpLT_eq_1, q_wpLT_eq_3, q_wpLT_eq_4, q_wpLT_eq_5, q_wpL_eq_1, q_wpLQ_eq_1, q_exL_eq_4, q_exL_eq_8, q_exL_eq_9, q_exL_eq_21, q_exLQ_eq_1, q_exLQ_eq_6, q_exLQ_eq_8, q_exLQ_eq_9, q_exLQ_eq_10, q_exLQ_eq_22, q_look_eq_1, q_lookO_eq_1, q_insT_eq_1, q_insO_eq_1, q_awl_eq_1, q_awl_eq_2, q_awl_eq_4, q_awl_eq_5, q_awl_eq_6, q_awl_eq_10, q_awl_eq_11, q_AE_thenL_eq_1, q_AE_thenL_eq_3, q_AE_inBlockL_eq_3, q_keepT_eq_1, q_keepT_eq_2, q_keepO_eq_1, q_keepO_eq_2, q_addO_eq_1, q_addO_eq_2, q_putK_eq_1, q_vFaddr_eq_1, q_loadO_eq_1, q_isV_eq_1, q_vLoad_eq_1, q_vBuild_eq_1, q_rowV_eq_1, q_ofRow_eq_1, q_ofRow_eq_2, q_pureRow_eq_1, q_pureRow_eq_2, q_V_cells_eq_2, q_splice_eq_1, q_isVarO_eq_1, q_vRow_eq_1, q_vLits_eq_1, q_vLits_eq_2, q_bsQ_eq_1, q_stVarK_eq_1, q_storeK_eq_1, q_mapT_eq_1, q_mapT_eq_2, q_mapO_eq_1, q_mapO_eq_2, q_freeB_eq_1, q_freeT_eq_1, q_freeT_eq_2, q_freeO_eq_1, q_freeO_eq_2, q_V_noRef_eq_1, q_V_noRef_eq_2, q_K_noRef_eq_1, q_K_noRef_eq_2, q_K_noRef_eq_3, q_O_noRef_eq_1, q_O_noRef_eq_2, q_endK_eq_2, q_endL_eq_1, q_endV_eq_1, q_resL_eq_1, q_resL_eq_2, q_resX_eq_1, q_resX_eq_2, q_resCell_eq_1, q_one_eq_2, q_V_nrm_eq_1, q_K_nrm_eq_1, q_K_nrm_eq_3, q_O_nrm_eq_1, q_O_nrm_eq_2, q_V_owns_eq_1, q_V_owns_eq_3, q_V_owns_eq_4, q_K_owns_eq_2, q_V_ownsL_eq_1, q_V_ownsL_eq_2, q_V_toNew_eq_1, q_V_toNew_eq_2, q_V_toNew_eq_4, q_K_toNew_eq_1, q_V_toNewL_eq_1, q_V_toNewL_eq_2, q_C_norm_eq_1, q_C_norm_eq_4, q_C_norm_eq_5, q_C_normRow_eq_1, q_C_normRow_eq_2, q_C_normRows_eq_1, q_C_normRows_eq_2, q_regN_eq_2, q_V_reg_eq_4, q_freesL_eq_1, q_addsL_eq_1, q_regK_eq_1, q_retK_eq_2, q_Option_map_some, q_List_map_cons, q_List_map_nil, q_List_take_succ_cons, q_List_take_zero, q_List_drop_succ_cons, q_List_drop_zero, q_List_nil_append, q_List_foldl_cons, q_List_foldl_nil, q_List_replicate_succ, q_List_replicate_zero, q_List_set_cons_zero, q_List_length_cons, q_List_length_nil, q_List_all_cons, q_List_all_nil, q_List_isEmpty_cons, true_and, and_true, if_true, if_false, Bool.false_eq_true, forall_eq, or_false, and_self, bne_iff_ne, ne_eq, Bool.and_eq_true, Bool.and_true, Bool.true_and, Bool.or_true, Bool.false_or, List.append_nil, List.mem_cons, List.nodup_nil, Nat.reduceAdd, Nat.reduceMul, Nat.reduceEqDiff, Nat.reduceLeDiff, Nat.reduceLT, Nat.reduceBEq, Nat.zero_add, Nat.add_zero, Nat.le_refl, q_learn_eq_1, not_false_eq_true, q_condK_eq_1, q_condB_eq_2, lookT_here, lookT_next, lookO_here, lookO_next, List.not_mem_nil, uf64r40o0, uf64r40o1, uf64r40o2, uf64r40o3, uf64r40o4, uf64r40o5, utf64r40, uf64b41, uf64b44, uf64r45, uf64b46]
        exact fin_run hS rfl (by rw [ee]; have : vn = 0 := (by simpa [VR] using hvr); rw [this]) (by rw [er]; simp [V.fz, Abs.K.fz, V.nrm, Abs.K.nrm, norm_list, ints])
      · simp only [encCV, encCell, q_wpLs_eq_1, q_wpLs_eq_2, q_wpL_eq_1, q_exL_eq_2, q_exL_eq_4, q_exL_eq_8, q_exL_eq_9, q_exL_eq_21, q_look_eq_1, q_insT_eq_1, q_insO_eq_1, q_awl_eq_2, q_awl_eq_5, q_awl_eq_6, q_awl_eq_10, q_AE_thenL_eq_1, q_AE_thenL_eq_3, q_AE_inBlockL_eq_3, q_putK_eq_1, q_vFaddr_eq_1, q_loadO_eq_1, q_isV_eq_1, q_vLoad_eq_1, q_ofRow_eq_1, q_ofRow_eq_2, q_pureRow_eq_1, q_pureRow_eq_2, q_V_cells_eq_2, q_splice_eq_1, q_isVarO_eq_1, q_isArrO_eq_1, q_stVarK_eq_1, q_storeK_eq_1, q_mapT_eq_1, q_mapT_eq_2, q_mapO_eq_1, q_mapO_eq_2, q_freeB_eq_1, q_freeT_eq_1, q_freeT_eq_2, q_freeO_eq_1, q_freeO_eq_2, q_V_noRef_eq_1, q_V_noRef_eq_2, q_K_noRef_eq_1, q_K_noRef_eq_2, q_K_noRef_eq_3, q_O_noRef_eq_1, q_O_noRef_eq_2, q_endK_eq_2, q_endL_eq_1, q_endV_eq_1, q_resL_eq_1, q_resL_eq_2, q_resX_eq_1, q_resX_eq_2, q_resCell_eq_1, q_one_eq_2, q_V_nrm_eq_1, q_V_nrm_eq_2, q_K_nrm_eq_1, q_K_nrm_eq_3, q_O_nrm_eq_1, q_O_nrm_eq_2, q_V_owns_eq_1, q_V_owns_eq_3, q_V_owns_eq_4, q_K_owns_eq_1, q_V_ownsL_eq_1, q_V_ownsL_eq_2, q_V_toNew_eq_1, q_V_toNew_eq_2, q_V_toNew_eq_4, q_K_toNew_eq_2, q_V_toNewL_eq_1, q_V_toNewL_eq_2, q_C_norm_eq_4, q_C_norm_eq_5, q_C_normRow_eq_1, q_C_normRow_eq_2, q_C_normRows_eq_1, q_regN_eq_2, q_V_reg_eq_4, q_freesL_eq_1, q_addsL_eq_1, q_regK_eq_1, q_retK_eq_2, q_Option_map_some, q_List_map_cons, q_List_map_nil, q_List_take_succ_cons, q_List_take_zero, q_List_drop_succ_cons, q_List_drop_zero, q_List_nil_append, q_List_length_cons, q_List_length_nil, q_List_all_cons, q_List_all_nil, true_and, if_true, if_false, Bool.false_eq_true, and_self, bne_iff_ne, ne_eq, Bool.and_eq_true, Bool.and_true, Bool.true_and, Bool.or_true, Bool.true_or, Bool.false_or, BEq.rfl, List.append_nil, List.nodup_nil, List.nodup_cons, Nat.reduceAdd, Nat.reduceMul, Nat.reduceEqDiff, Nat.reduceLeDiff, Nat.reduceLT, Nat.reduceBEq, Nat.succ_ne_self, Nat.zero_add, Nat.add_zero, Nat.le_refl, q_learn_eq_1, not_false_eq_true, q_condK_eq_1, q_condB_eq_1, norm_lst, normRows_T, normRows_Ce, lookT_here, lookT_next, lookO_here, lookO_next, List.not_mem_nil, uf64r42, uf64b43, uf64b44, uf64r45, uf64b46]
        exact fin_run hS rfl (by rw [ee]) (by rw [er]; rfl)
    have h3 : 3 ≤ t.op := by omega
    obtain ⟨g13, gar, gwt, gfirst⟩ := wt_args hw h3
    have hl3 : t.args.length ≤ 3 := by have : arity t.op ≤ 3 := by { unfold arity; (repeat' split) <;> omega }; omega
    simp only [encT_eq, h0, h1, h2, q_wpLs_eq_1, q_wpLs_eq_2, q_wpL_eq_1, q_exL_eq_1, q_exL_eq_2, q_exL_eq_4, q_exL_eq_5, q_exL_eq_6, q_exL_eq_8, q_exL_eq_9, q_exL_eq_11, q_exL_eq_18, q_exL_eq_21, q_exL_eq_28, q_exL_eq_30, q_look_eq_1, q_look_eq_2, q_insT_eq_1, q_insO_eq_1, q_awl_eq_1, q_awl_eq_2, q_awl_eq_5, q_awl_eq_6, q_awl_eq_7, q_awl_eq_10, q_AE_thenL_eq_1, q_AE_thenL_eq_3, q_AE_inBlockL_eq_1, q_AE_inBlockL_eq_3, q_initT_eq_1, q_initT_eq_2, q_putK_eq_1, q_vBin_eq_1, q_resV_eq_1, q_binV_eq_1, q_binInt_eq_3, q_cutInt_eq_6, q_vFaddr_eq_1, q_loadO_eq_1, q_isV_eq_1, q_vLoad_eq_1, q_vBuild_eq_1, q_vBuild_eq_2, q_rowV_eq_1, q_ofRow_eq_1, q_ofRow_eq_2, q_pureRow_eq_1, q_pureRow_eq_2, q_V_cells_eq_1, q_V_cells_eq_2, q_splice_eq_1, q_isVarO_eq_1, q_isArrO_eq_1, q_boxK_eq_1, q_stVarK_eq_1, q_storeK_eq_1, q_mkslK_eq_1, q_mapT_eq_1, q_mapT_eq_2, q_mapO_eq_1, q_mapO_eq_2, q_freeB_eq_1, q_freeT_eq_1, q_freeT_eq_2, q_freeO_eq_1, q_freeO_eq_2, q_V_noRef_eq_1, q_V_noRef_eq_2, q_K_noRef_eq_1, q_K_noRef_eq_2, q_K_noRef_eq_3, q_O_noRef_eq_1, q_O_noRef_eq_2, q_endK_eq_2, q_endL_eq_1, q_endV_eq_1, q_resL_eq_1, q_resL_eq_2, q_resX_eq_1, q_resX_eq_2, q_resCell_eq_1, q_one_eq_2, q_V_nrm_eq_1, q_V_nrm_eq_2, q_K_nrm_eq_1, q_K_nrm_eq_3, q_O_nrm_eq_1, q_O_nrm_eq_2, q_V_owns_eq_1, q_V_owns_eq_3, q_V_owns_eq_4, q_K_owns_eq_1, q_V_ownsL_eq_1, q_V_ownsL_eq_2, q_V_toNew_eq_1, q_V_toNew_eq_2, q_V_toNew_eq_4, q_K_toNew_eq_2, q_V_toNewL_eq_1, q_V_toNewL_eq_2, q_C_norm_eq_4, q_C_norm_eq_5, q_C_normRow_eq_1, q_C_normRow_eq_2, q_C_normRows_eq_1, q_Option_map_some, q_List_map_cons, q_List_map_nil, q_List_take_succ_cons, q_List_take_zero, q_List_drop_succ_cons, q_List_drop_zero, q_List_nil_append, q_List_cons_append, q_List_length_cons, q_List_length_nil, q_List_all_cons, q_List_all_nil, true_and, if_true, if_false, Bool.false_eq_true, false_implies, forall_const, and_self, bne_iff_ne, ne_eq, Bool.and_eq_true, Bool.and_true, Bool.true_and, Bool.or_true, Bool.true_or, Bool.false_or, BEq.rfl, List.append_nil, List.nodup_nil, List.nodup_cons, Nat.reduceAdd, Nat.reduceEqDiff, Nat.reduceLeDiff, Nat.reduceLT, Nat.reduceBEq, Nat.zero_add, Nat.add_zero, Int.toNat_natCast, Nat.le_refl, Int.natCast_nonneg, q_learn_eq_1, not_false_eq_true, q_condK_eq_1, q_condB_eq_1, condB_beq, r_vLen_lst, norm_lst, normRows_T, normRows_Ce, List.length_map, lookT_here, lookT_next, Int.cast_ofNat_Int, lookO_here, lookO_next, List.not_mem_nil, uf64, uf64b30, uf64r31, uf64b32, uf64b33, uf64r34, uf64b35, uf64r36, uf64b37, uf64r38, uf64b39, uf64r47, uf64b48, uf64b49, uf64b50, uf64r51, uf64b52, uf64b53, uf64r54, uf64b55, uf64r56, uf64b57, uf64b58, uf64b59, uf64r60, uf64b61, uf64b62, uf64r63, uf64b64]
    refine ⟨by omega, by omega, by omega, by omega, by omega, by omega, ?_⟩
    rw [uf64l29]
    refine awl_loop (fun i : Nat => [(2, .k (.ptr 2 0)), (3, .k (.ptr 3 0)), (4, .k (.ptr 4 0)), (7, .k (.own 37)), (8, .k (.own 41)), (43, lst 3 (t.args.map encT)), (44, .int .i64 t.args.length), (45, .int .i64 i)])
      (fun i => [(2, .var 83 [.c (lstC 2 (cells.map encCell))]), (3, .var 41 [.c (.int .i64 t.op), .c (.int .i64 t.n), .c (lstC 3 (t.args.map encT))]), (4, .var 53 [.c (.bool false), .c (.int .i64 0)]),
        (37, .arr 53 2 (some false) (part (evR cells) [.bool false, .int .i64 0] t.args i)), (41, .arr 36 1 (some false) (part (rnR cells) [.list 0 (some true) []] t.args i))])
      (fun i => i ≤ t.args.length) (fun i => t.args.length - i) 0 rfl (by rw [part_0, part_0]; rfl) (Nat.zero_le _) ?_
    intro i hi
    by_cases hlt : i < t.args.length
    · have c1 : (i : Int) < t.args.length := by omega
      have c4 : IntKind.i64.wrap ((i : Int) + 1) = (i : Int) + 1 := wrap_in (by omega) (by omega)
      obtain ⟨k', hk'⟩ := gwt t.args[i] (List.getElem_mem hlt)
      have hszi : szT t.args[i] ≤ 1000000 := by { have := szL_mem (List.getElem_mem hlt); rw [szT_eq] at hsz; omega }
      simp only [c1, c4, map_at hlt, encT_len, q_wpLs_eq_1, q_wpLs_eq_2, q_wpL_eq_1, q_exL_eq_1, q_exL_eq_4, q_exL_eq_8, q_exL_eq_9, q_exL_eq_11, q_exL_eq_23, q_exL_eq_28, q_look_eq_1, q_insT_eq_1, q_insO_eq_1, q_awl_eq_1, q_awl_eq_2, q_awl_eq_5, q_awl_eq_6, q_awl_eq_7, q_AE_thenL_eq_1, q_AE_inBlockL_eq_1, q_putK_eq_1, q_vBin_eq_1, q_resV_eq_1, q_binV_eq_1, q_binInt_eq_3, q_cutInt_eq_8, q_partV_eq_1, q_loadO_eq_1, q_isV_eq_1, q_vLoad_eq_1, q_vLoad_eq_2, q_ofRow_eq_1, q_pureRow_eq_1, q_pureRow_eq_2, q_V_cells_eq_2, q_splice_eq_1, q_stVarK_eq_1, q_storeK_eq_1, q_freeB_eq_1, q_freeT_eq_1, q_freeT_eq_2, q_freeO_eq_1, q_freeO_eq_2, q_V_noRef_eq_1, q_V_noRef_eq_2, q_K_noRef_eq_1, q_K_noRef_eq_2, q_K_noRef_eq_3, q_K_noRef_eq_5, q_O_noRef_eq_1, q_O_noRef_eq_2, q_Option_map_some, q_List_map_cons, q_List_map_nil, q_List_take_succ_cons, q_List_take_zero, q_List_drop_succ_cons, q_List_drop_zero, q_List_nil_append, q_List_length_cons, q_List_length_nil, q_List_all_cons, q_List_all_nil, true_and, if_true, and_self, bne_iff_ne, ne_eq, Bool.and_eq_true, Bool.and_true, Bool.true_and, Bool.or_true, Bool.false_or, List.append_nil, Nat.reduceAdd, Nat.reduceEqDiff, Nat.reduceBEq, Nat.zero_add, Int.toNat_natCast, Nat.le_refl, Int.natCast_nonneg, q_learn_eq_1, not_false_eq_true, q_condK_eq_1, q_condB_eq_1, decide_true, r_vIaddr_lst, List.length_map, r_ofRow_take, encT_len, lookT_here, lookT_next, lookO_here, lookO_next, uf64r19, uf64r20, uf64r21, uf64b22, uf64b23, uf64b24, uf64b25, uf64b26, uf64r27, uf64b28]
      refine call_r (ih t.args[i] (List.getElem_mem hlt) k' hk' hszi cells) ?_
      have p1 := part_len (evR cells) [.bool false, .int .i64 0] t.args i hi
      have p2 := part_len (rnR cells) [.list 0 (some true) []] t.args i hi
      simp only [runV, c1, c4, p1, p2, encCell_len, q_wpLs_eq_1, q_wpLs_eq_2, q_wpL_eq_1, q_exL_eq_1, q_exL_eq_9, q_exL_eq_11, q_exL_eq_23, q_exL_eq_27, q_look_eq_1, q_look_eq_2, q_insT_eq_1, q_insO_eq_1, q_awl_eq_2, q_AE_thenL_eq_1, q_putK_eq_1, q_vBin_eq_1, q_resV_eq_1, q_binV_eq_1, q_binInt_eq_3, q_cutInt_eq_1, q_vExtr_eq_1, q_vIaddr_eq_2, q_idxO_eq_1, q_splice_eq_1, q_vRow_eq_1, q_vRow_eq_2, q_stArrK_eq_1, q_storeK_eq_2, q_regN_eq_2, q_V_reg_eq_3, q_V_reg_eq_4, q_V_regL_eq_1, q_V_regL_eq_2, q_freesL_eq_1, q_addsL_eq_1, q_regK_eq_1, q_retK_eq_2, q_List_take_zero, q_List_nil_append, q_List_cons_append, q_List_length_cons, q_List_length_nil, q_List_getElemQ_cons_zero, q_List_getElemQ_cons_succ, true_and, if_true, and_self, List.append_nil, Nat.reduceAdd, Nat.reduceMul, Nat.reduceBEq, Nat.zero_add, Nat.add_zero, Int.toNat_natCast, Nat.le_refl, Int.natCast_nonneg, encCell_len, lookT_here, lookT_next, lookO_here, lookO_next]
      refine Next.intro (i + 1) rfl ?_ (by omega) (by omega)
      rw [← part_set _ _ _ hlt, ← part_set _ _ _ hlt]
      rfl
    · have c1 : ¬ (i : Int) < t.args.length := by omega
      obtain rfl : i = t.args.length := by omega
      rw [part_all, part_all, map_evR, map_rnR]
      have hcs : ∀ c ∈ t.args.map (fun a => eval a cells), inN c.n := by
        intro c hc
        obtain ⟨a, ha, rfl⟩ := List.mem_map.1 hc
        obtain ⟨k', hk'⟩ := gwt a ha
        exact vr_in (vr_eval hk' cells)
      have hflat : (t.args.map fun a => runN a cells).flatten.length ≤ 1000000 := by { have := flat_sz cells t.args (fun x _ => rn_len cells x); rw [szT_eq] at hsz; omega }
      have ev : eval t cells = evalN t.op (t.args.map fun a => eval a cells) := by rw [eval_eq, if_neg (by omega), if_neg h2]
      have rn : runN t cells = if t.op = 6 ∧ ((t.args.map fun a => eval a cells).getD 0 ⟨false, 0⟩).known = true then (t.args.map fun a => runN a cells).getD (2 - ((t.args.map fun a => eval a cells).getD 0 ⟨false, 0⟩).n).toNat []
          else if (evalN t.op (t.args.map fun a => eval a cells)).known = true then [] else (t.args.map fun a => runN a cells).flatten := by rw [runN_eq, if_neg (by omega), if_neg h2]
      have q0' : 0 < t.args.length := by have : 0 < arity t.op := by { unfold arity; (repeat' split) <;> omega }; omega
      have g0 : (t.op = 3 ∨ t.op = 6) → VR 1 ((t.args.map fun a => eval a cells).getD 0 ⟨false, 0⟩) := by
        intro h
        have := vr_eval (gfirst h q0') cells
        simpa [List.getD_eq_getElem?_getD, List.getElem?_eq_getElem q0'] using this
      have lcs : (t.args.map fun a => eval a cells).length = t.args.length := by simp
      have lrs : (t.args.map fun a => runN a cells).length = t.args.length := by simp
      generalize hcsn : (t.args.map fun a => eval a cells) = cs at *
      generalize hrsn : (t.args.map fun a => runN a cells) = rs at *
      have q0 : 0 < cs.length := by omega
      have i0 : (0 : Int) < cs.length := by omega
      have s77' := s77 t.op cs h3 g13 (by rw [lcs]; exact gar) hcs (fun h hk => bit_of (k := 1) (g0 (.inl h)) hk)
      obtain ⟨k0, n0, e0⟩ : ∃ k n, cs[0] = Cell.mk k n := ⟨_, _, rfl⟩
      have d0 : cs.getD 0 ⟨false, 0⟩ = ⟨k0, n0⟩ := by simp [List.getD_eq_getElem?_getD, List.getElem?_eq_getElem q0, e0]
      rw [d0] at g0 s77' rn
      by_cases h6 : t.op = 6
      · cases k0
        · have s77' := s77' (fun _ => rfl)
          rw [h6] at s77' ev rn
          simp only [c1, h6, i0, cell_at q0, e0, List.length_map, q_wpLs_eq_1, q_wpLs_eq_2, q_wpL_eq_1, q_AOp_dst_eq_1, q_AOp_dst_eq_8, q_AOp_dst_eq_20, q_AOp_dst_eq_22, q_exL_eq_1, q_exL_eq_3, q_exL_eq_8, q_exL_eq_11, q_exL_eq_21, q_exL_eq_23, q_exL_eq_28, q_look_eq_1, q_look_eq_2, q_insT_eq_1, q_awl_eq_1, q_awl_eq_2, q_awl_eq_5, q_awl_eq_6, q_awl_eq_9, q_AE_thenL_eq_1, q_AE_thenL_eq_2, q_AE_inBlockL_eq_2, q_putK_eq_1, q_vBin_eq_1, q_resV_eq_1, q_binV_eq_1, q_binInt_eq_3, q_cutInt_eq_6, q_cutInt_eq_8, q_vFaddr_eq_1, q_vFaddr_eq_3, q_partV_eq_2, q_loadO_eq_1, q_isV_eq_1, q_vLoad_eq_1, q_vLoad_eq_2, q_vIaddr_eq_1, q_vPick_eq_1, q_ofRow_eq_1, q_pureRow_eq_1, q_pureRow_eq_2, q_isVarO_eq_1, q_mapT_eq_1, q_mapT_eq_2, q_mapO_eq_1, q_mapO_eq_2, q_delO_eq_1, q_delO_eq_2, q_Bool_not_true, q_Option_map_some, q_List_map_cons, q_List_map_nil, q_List_take_succ_cons, q_List_take_zero, q_List_drop_zero, q_List_length_cons, q_List_length_nil, q_List_getD_cons_zero, true_and, if_true, if_false, Bool.false_eq_true, and_self, BEq.rfl, Nat.reduceAdd, Nat.reduceEqDiff, Nat.reduceLeDiff, Nat.reduceBEq, Nat.zero_add, Nat.add_zero, Int.toNat_zero, q_learn_eq_1, q_guardP_eq_1, q_condK_eq_1, q_condB_eq_1, q_condB_eq_2, q_exK_eq_1, decide_false, List.length_map, lookT_here, lookT_next, Int.reduceLE, lookO_here, lookO_next, z_V_k, z_K_c, z_O_var, z_O_arr, z_frzT, z_frzO, q_awl_eq_14, z_K_own_arr, z_K_ptr_arr, uf64r8, uf64b9, uf64b10, uf64b15, uf64r16, uf64b17, uf64b18, uf64b25, uf64b26, uf64r27, uf64b28]
          refine call_r s77' ?_
          obtain ⟨kv, nv, hev⟩ : ∃ k n, evalN 6 cs = Cell.mk k n := ⟨_, _, rfl⟩
          have hvr := vr_eval hw cells
          rw [ev] at hvr
          rw [hev] at ev rn hvr ⊢
          cases kv
          · simp only [encCV, encCell, q_wpLs_eq_1, q_wpLs_eq_2, q_wpL_eq_1, q_exL_eq_1, q_exL_eq_4, q_exL_eq_6, q_exL_eq_8, q_exL_eq_9, q_exL_eq_21, q_exL_eq_28, q_look_eq_1, q_insT_eq_1, q_insO_eq_1, q_awl_eq_1, q_awl_eq_2, q_awl_eq_5, q_awl_eq_6, q_AE_thenL_eq_1, q_putK_eq_1, q_vFaddr_eq_1, q_loadO_eq_1, q_isV_eq_1, q_vLoad_eq_1, q_vBuild_eq_1, q_rowV_eq_1, q_ofRow_eq_1, q_ofRow_eq_2, q_pureRow_eq_1, q_pureRow_eq_2, q_V_cells_eq_2, q_splice_eq_1, q_isVarO_eq_1, q_stVarK_eq_1, q_storeK_eq_1, q_freeB_eq_1, q_freeT_eq_1, q_freeT_eq_2, q_freeO_eq_1, q_freeO_eq_2, q_V_noRef_eq_1, q_V_noRef_eq_2, q_K_noRef_eq_1, q_K_noRef_eq_3, q_K_noRef_eq_5, q_O_noRef_eq_1, q_regN_eq_2, q_V_reg_eq_4, q_freesL_eq_1, q_addsL_eq_1, q_regK_eq_1, q_retK_eq_2, q_Option_map_some, q_List_map_cons, q_List_map_nil, q_List_take_succ_cons, q_List_take_zero, q_List_drop_succ_cons, q_List_drop_zero, q_List_nil_append, q_List_length_cons, q_List_length_nil, q_List_all_cons, q_List_all_nil, true_and, if_true, if_false, Bool.false_eq_true, and_self, bne_iff_ne, ne_eq, Bool.and_eq_true, Bool.and_true, Bool.true_and, Bool.or_true, Bool.false_or, List.append_nil, Nat.reduceAdd, Nat.reduceMul, Nat.reduceEqDiff, Nat.reduceLeDiff, Nat.reduceBEq, Nat.zero_add, Nat.add_zero, Nat.le_refl, q_learn_eq_1, not_false_eq_true, q_condK_eq_1, q_condB_eq_2, lookT_here, lookT_next, lookO_here, uf64r1, uf64b2, uf64b5, uf64r6, uf64b7]
            refine call_l (s78 rs hflat) ?_
            simp only [q_wpLs_eq_1, q_wpLs_eq_2, q_wpL_eq_1, q_exL_eq_1, q_exL_eq_9, q_look_eq_1, q_insT_eq_1, q_insO_eq_1, q_awl_eq_10, q_ofRow_eq_2, q_pureRow_eq_1, q_pureRow_eq_2, q_V_cells_eq_2, q_splice_eq_1, q_isArrO_eq_1, q_stVarK_eq_1, q_storeK_eq_1, q_mapT_eq_1, q_mapT_eq_2, q_mapO_eq_1, q_mapO_eq_2, q_endK_eq_2, q_endL_eq_1, q_endV_eq_1, q_resL_eq_1, q_resL_eq_2, q_resX_eq_1, q_resX_eq_2, q_resCell_eq_1, q_one_eq_2, q_V_nrm_eq_1, q_V_nrm_eq_2, q_K_nrm_eq_1, q_K_nrm_eq_2, q_K_nrm_eq_3, q_O_nrm_eq_1, q_O_nrm_eq_2, q_V_owns_eq_1, q_V_owns_eq_3, q_V_owns_eq_4, q_K_owns_eq_1, q_V_ownsL_eq_1, q_V_ownsL_eq_2, q_V_toNew_eq_1, q_V_toNew_eq_2, q_V_toNew_eq_4, q_K_toNew_eq_2, q_V_toNewL_eq_1, q_V_toNewL_eq_2, q_C_norm_eq_1, q_C_norm_eq_4, q_C_norm_eq_5, q_C_normRow_eq_1, q_C_normRow_eq_2, q_Option_map_some, q_List_map_cons, q_List_map_nil, q_List_take_succ_cons, q_List_take_zero, q_List_drop_succ_cons, q_List_drop_zero, q_List_nil_append, q_List_length_cons, q_List_length_nil, true_and, if_true, and_self, List.append_nil, List.nodup_nil, List.nodup_cons, Nat.reduceAdd, Nat.reduceLT, Nat.reduceBEq, Nat.zero_add, Nat.le_refl, not_false_eq_true, norm_lst, normRows_T, normRows_Ce, normRows_ints, lookT_here, lookT_next, lookO_here, lookO_next, List.not_mem_nil]
            exact fin_run hS rfl (by rw [ev]; have : nv = 0 := (by simpa [VR] using hvr); rw [this]) (by rw [rn]; simp [V.fz, Abs.K.fz, V.nrm, Abs.K.nrm, norm_list])
          · simp only [encCV, encCell, q_wpLs_eq_1, q_wpLs_eq_2, q_wpL_eq_1, q_exL_eq_2, q_exL_eq_4, q_exL_eq_8, q_exL_eq_9, q_exL_eq_21, q_look_eq_1, q_insT_eq_1, q_insO_eq_1, q_awl_eq_2, q_awl_eq_5, q_awl_eq_6, q_awl_eq_10, q_AE_thenL_eq_1, q_AE_thenL_eq_3, q_putK_eq_1, q_vFaddr_eq_1, q_loadO_eq_1, q_isV_eq_1, q_vLoad_eq_1, q_ofRow_eq_1, q_ofRow_eq_2, q_pureRow_eq_1, q_pureRow_eq_2, q_V_cells_eq_2, q_splice_eq_1, q_isVarO_eq_1, q_isArrO_eq_1, q_stVarK_eq_1, q_storeK_eq_1, q_mapT_eq_1, q_mapT_eq_2, q_mapO_eq_1, q_mapO_eq_2, q_freeB_eq_1, q_freeT_eq_1, q_freeT_eq_2, q_freeO_eq_1, q_freeO_eq_2, q_V_noRef_eq_1, q_V_noRef_eq_2, q_K_noRef_eq_1, q_K_noRef_eq_3, q_K_noRef_eq_5, q_O_noRef_eq_1, q_endK_eq_2, q_endL_eq_1, q_endV_eq_1, q_resL_eq_1, q_resL_eq_2, q_resX_eq_1, q_resX_eq_2, q_resCell_eq_1, q_one_eq_2, q_V_nrm_eq_1, q_V_nrm_eq_2, q_K_nrm_eq_1, q_K_nrm_eq_2, q_K_nrm_eq_3, q_O_nrm_eq_1, q_O_nrm_eq_2, q_V_owns_eq_1, q_V_owns_eq_3, q_V_owns_eq_4, q_K_owns_eq_1, q_V_ownsL_eq_1, q_V_ownsL_eq_2, q_V_toNew_eq_1, q_V_toNew_eq_2, q_V_toNew_eq_4, q_K_toNew_eq_2, q_V_toNewL_eq_1, q_V_toNewL_eq_2, q_C_norm_eq_1, q_C_norm_eq_4, q_C_norm_eq_5, q_C_normRow_eq_1, q_C_normRow_eq_2, q_C_normRows_eq_1, q_regN_eq_2, q_V_reg_eq_4, q_freesL_eq_1, q_addsL_eq_1, q_regK_eq_1, q_retK_eq_2, q_Option_map_some, q_List_map_cons, q_List_map_nil, q_List_take_succ_cons, q_List_take_zero, q_List_drop_succ_cons, q_List_drop_zero, q_List_nil_append, q_List_length_cons, q_List_length_nil, q_List_all_cons, q_List_all_nil, true_and, if_true, if_false, Bool.false_eq_true, and_self, bne_iff_ne, ne_eq, Bool.and_eq_true, Bool.and_true, Bool.true_and, Bool.or_true, Bool.false_or, List.append_nil, List.nodup_nil, List.nodup_cons, Nat.reduceAdd, Nat.reduceMul, Nat.reduceEqDiff, Nat.reduceLeDiff, Nat.reduceLT, Nat.reduceBEq, Nat.zero_add, Nat.add_zero, Nat.le_refl, q_learn_eq_1, not_false_eq_true, q_condK_eq_1, q_condB_eq_1, norm_lst, normRows_T, normRows_Ce, lookT_here, lookT_next, lookO_here, lookO_next, List.not_mem_nil, uf64r3, uf64b4, uf64b5, uf64r6, uf64b7]
            exact fin_run hS rfl (by rw [ev]) (by rw [rn]; simp [V.fz, Abs.K.fz, V.nrm, Abs.K.nrm, norm_list, ints])
        · have h01 := bit_of (k := 1) (g0 (.inr h6)) rfl
          simp only [] at h01
          rw [h6] at ev rn gar
          have h63 : arity 6 = 3 := by decide
          have l3 : cs.length = 3 := by omega
          have r3 : rs.length = 3 := by omega
          have w0 : IntKind.i64.wrap 2 = 2 := rfl
          have w1 : IntKind.i64.wrap 1 = 1 := rfl
          rcases h01 with rfl | rfl
          · have q2 : 2 < cs.length := by omega
            have r2 : 2 < rs.length := by omega
            obtain ⟨km, nm, em⟩ : ∃ k n, cs[2] = Cell.mk k n := ⟨_, _, rfl⟩
            have i2 : (2 : Int) < cs.length := by omega
            have j2 : (2 : Int) < rs.length := by omega
            have t2 : (2 : Int).toNat = 2 := rfl
            simp only [c1, h6, i0, i2, j2, t2, w0, w1, cell_at q0, cell_at q2, encL_at r2, e0, em, List.length_map, q_wpLs_eq_1, q_wpLs_eq_2, q_wpLT_eq_1, q_wpLT_eq_3, q_wpLT_eq_4, q_wpLT_eq_5, q_wpL_eq_1, q_wpLQ_eq_1, q_AOp_dst_eq_1, q_AOp_dst_eq_8, q_AOp_dst_eq_20, q_AOp_dst_eq_22, q_exL_eq_1, q_exL_eq_3, q_exL_eq_8, q_exL_eq_11, q_exL_eq_21, q_exL_eq_23, q_exLQ_eq_1, q_exLQ_eq_9, q_exLQ_eq_10, q_exLQ_eq_24, q_look_eq_1, q_look_eq_2, q_lookO_eq_1, q_insT_eq_1, q_insO_eq_1, q_awl_eq_2, q_awl_eq_4, q_awl_eq_5, q_awl_eq_6, q_awl_eq_9, q_awl_eq_10, q_awl_eq_11, q_AE_thenL_eq_1, q_AE_thenL_eq_2, q_AE_thenL_eq_3, q_AE_inBlockL_eq_2, q_keepT_eq_1, q_keepT_eq_2, q_keepO_eq_1, q_keepO_eq_2, q_addO_eq_1, q_addO_eq_2, q_putK_eq_1, q_vBin_eq_1, q_resV_eq_1, q_binV_eq_1, q_binInt_eq_3, q_cutInt_eq_2, q_cutInt_eq_6, q_cutInt_eq_8, q_vFaddr_eq_1, q_vFaddr_eq_3, q_partV_eq_1, q_partV_eq_2, q_loadO_eq_1, q_isV_eq_1, q_vLoad_eq_1, q_vLoad_eq_2, q_vIaddr_eq_1, q_vPick_eq_1, q_ofRow_eq_1, q_ofRow_eq_2, q_pureRow_eq_1, q_pureRow_eq_2, q_V_cells_eq_2, q_splice_eq_1, q_isVarO_eq_1, q_stVarK_eq_1, q_storeK_eq_1, q_mapT_eq_1, q_mapT_eq_2, q_mapO_eq_1, q_mapO_eq_2, q_delO_eq_1, q_delO_eq_2, q_endK_eq_2, q_endL_eq_1, q_endV_eq_1, q_resL_eq_1, q_resL_eq_2, q_resX_eq_1, q_resX_eq_2, q_resCell_eq_1, q_one_eq_2, q_V_nrm_eq_1, q_K_nrm_eq_1, q_K_nrm_eq_3, q_O_nrm_eq_1, q_V_owns_eq_1, q_V_owns_eq_3, q_V_owns_eq_4, q_K_owns_eq_2, q_V_ownsL_eq_1, q_V_ownsL_eq_2, q_V_toNew_eq_1, q_V_toNew_eq_2, q_V_toNew_eq_4, q_K_toNew_eq_1, q_V_toNewL_eq_1, q_V_toNewL_eq_2, q_C_norm_eq_4, q_C_norm_eq_5, q_Bool_not_true, q_Option_map_some, q_List_map_cons, q_List_map_nil, q_List_take_succ_cons, q_List_take_zero, q_List_drop_succ_cons, q_List_drop_zero, q_List_nil_append, q_List_length_cons, q_List_length_nil, q_List_getD_cons_zero, q_List_getD_cons_succ, true_and, and_true, if_true, if_false, Bool.false_eq_true, and_self, BEq.rfl, List.append_nil, List.nodup_nil, Nat.reduceAdd, Nat.reduceEqDiff, Nat.reduceLeDiff, Nat.reduceLT, Nat.reduceBEq, Nat.zero_add, Nat.add_zero, Int.toNat_zero, Nat.le_refl, q_learn_eq_1, q_guardP_eq_1, q_condK_eq_1, q_condB_eq_1, q_condB_eq_2, q_exK_eq_1, decide_false, norm_lst, normRows_ints, List.length_map, lookT_here, lookT_next, Int.reduceLE, Int.reduceSub, lookO_here, lookO_next, z_V_k, z_K_c, z_O_var, z_O_arr, z_frzT, z_frzO, q_awl_eq_14, z_K_own_arr, z_K_ptr_arr, uf64r11o0, uf64r11o1, uf64r11o2, uf64r11o3, uf64r11o4, uf64r11o5, uf64r11o6, uf64r11o7, uf64r11o8, uf64r11o9, utf64r11, uf64b12, uf64r13, uf64b14, uf64b15, uf64r16, uf64b17, uf64b18, uf64b25, uf64b26, uf64r27, uf64b28]
            refine fin_run hS rfl ?_ ?_
            · rw [ev]; simp [evalN, List.getD_eq_getElem?_getD, List.getElem?_eq_getElem q0, List.getElem?_eq_getElem q2, e0, em]
            · rw [rn]; simp [V.fz, Abs.K.fz, V.nrm, Abs.K.nrm, norm_list, List.getElem?_eq_getElem r2]
          · have q2 : 1 < cs.length := by omega
            have r2 : 1 < rs.length := by omega
            obtain ⟨km, nm, em⟩ : ∃ k n, cs[1] = Cell.mk k n := ⟨_, _, rfl⟩
            have i2 : (1 : Int) < cs.length := by omega
            have j2 : (1 : Int) < rs.length := by omega
            have t2 : (1 : Int).toNat = 1 := rfl
            simp only [c1, h6, i0, i2, j2, t2, w0, w1, cell_at q0, cell_at q2, encL_at r2, e0, em, List.length_map, q_wpLs_eq_1, q_wpLs_eq_2, q_wpLT_eq_1, q_wpLT_eq_3, q_wpLT_eq_4, q_wpLT_eq_5, q_wpL_eq_1, q_wpLQ_eq_1, q_AOp_dst_eq_1, q_AOp_dst_eq_8, q_AOp_dst_eq_20, q_AOp_dst_eq_22, q_exL_eq_1, q_exL_eq_3, q_exL_eq_8, q_exL_eq_11, q_exL_eq_21, q_exL_eq_23, q_exLQ_eq_1, q_exLQ_eq_9, q_exLQ_eq_10, q_exLQ_eq_24, q_look_eq_1, q_look_eq_2, q_lookO_eq_1, q_insT_eq_1, q_insO_eq_1, q_awl_eq_2, q_awl_eq_4, q_awl_eq_5, q_awl_eq_6, q_awl_eq_9, q_awl_eq_10, q_awl_eq_11, q_AE_thenL_eq_1, q_AE_thenL_eq_2, q_AE_thenL_eq_3, q_AE_inBlockL_eq_2, q_keepT_eq_1, q_keepT_eq_2, q_keepO_eq_1, q_keepO_eq_2, q_addO_eq_1, q_addO_eq_2, q_putK_eq_1, q_vBin_eq_1, q_resV_eq_1, q_binV_eq_1, q_binInt_eq_3, q_cutInt_eq_2, q_cutInt_eq_6, q_cutInt_eq_8, q_vFaddr_eq_1, q_vFaddr_eq_3, q_partV_eq_1, q_partV_eq_2, q_loadO_eq_1, q_isV_eq_1, q_vLoad_eq_1, q_vLoad_eq_2, q_vIaddr_eq_1, q_vPick_eq_1, q_ofRow_eq_1, q_ofRow_eq_2, q_pureRow_eq_1, q_pureRow_eq_2, q_V_cells_eq_2, q_splice_eq_1, q_isVarO_eq_1, q_stVarK_eq_1, q_storeK_eq_1, q_mapT_eq_1, q_mapT_eq_2, q_mapO_eq_1, q_mapO_eq_2, q_delO_eq_1, q_delO_eq_2, q_endK_eq_2, q_endL_eq_1, q_endV_eq_1, q_resL_eq_1, q_resL_eq_2, q_resX_eq_1, q_resX_eq_2, q_resCell_eq_1, q_one_eq_2, q_V_nrm_eq_1, q_K_nrm_eq_1, q_K_nrm_eq_3, q_O_nrm_eq_1, q_V_owns_eq_1, q_V_owns_eq_3, q_V_owns_eq_4, q_K_owns_eq_2, q_V_ownsL_eq_1, q_V_ownsL_eq_2, q_V_toNew_eq_1, q_V_toNew_eq_2, q_V_toNew_eq_4, q_K_toNew_eq_1, q_V_toNewL_eq_1, q_V_toNewL_eq_2, q_C_norm_eq_4, q_C_norm_eq_5, q_Bool_not_true, q_Option_map_some, q_List_map_cons, q_List_map_nil, q_List_take_succ_cons, q_List_take_zero, q_List_drop_succ_cons, q_List_drop_zero, q_List_nil_append, q_List_length_cons, q_List_length_nil, q_List_getD_cons_zero, q_List_getD_cons_succ, true_and, and_true, if_true, if_false, Bool.false_eq_true, and_self, BEq.rfl, List.append_nil, List.nodup_nil, Nat.reduceAdd, Nat.reduceEqDiff, Nat.reduceLeDiff, Nat.reduceLT, Nat.reduceBEq, Nat.zero_add, Nat.add_zero, Int.toNat_zero, Nat.le_refl, q_learn_eq_1, q_guardP_eq_1, q_condK_eq_1, q_condB_eq_1, q_condB_eq_2, q_exK_eq_1, decide_false, norm_lst, normRows_ints, List.length_map, lookT_here, lookT_next, Int.reduceLE, Int.reduceSub, lookO_here, lookO_next, z_V_k, z_K_c, z_O_var, z_O_arr, z_frzT, z_frzO, q_awl_eq_14, z_K_own_arr, z_K_ptr_arr, uf64r11o0, uf64r11o1, uf64r11o2, uf64r11o3, uf64r11o4, uf64r11o5, uf64r11o6, uf64r11o7, uf64r11o8, uf64r11o9, utf64r11, uf64b12, uf64r13, uf64b14, uf64b15, uf64r16, uf64b17, uf64b18, uf64b25, uf64b26, uf64r27, uf64b28]
            refine fin_run hS rfl ?_ ?_
            · rw [ev]; simp [evalN, List.getD_eq_getElem?_getD, List.getElem?_eq_getElem q0, List.getElem?_eq_getElem q2, e0, em]
            · rw [rn]; simp [V.fz, Abs.K.fz, V.nrm, Abs.K.nrm, norm_list, List.getElem?_eq_getElem r2]
      · have s77' := s77' (fun h => absurd h h6)
        rw [if_neg (by simp [h6])] at rn
        simp only [c1, h6, q_wpLs_eq_1, q_wpLs_eq_2, q_wpL_eq_1, q_putDL_eq_1, q_AOp_dst_eq_1, q_AOp_dst_eq_8, q_AOp_dst_eq_20, q_AOp_dst_eq_22, q_exL_eq_1, q_exL_eq_3, q_exL_eq_8, q_exL_eq_11, q_exL_eq_21, q_exL_eq_23, q_exL_eq_28, q_look_eq_1, q_look_eq_2, q_insT_eq_1, q_awl_eq_1, q_awl_eq_2, q_awl_eq_5, q_awl_eq_6, q_awl_eq_9, q_AE_thenL_eq_1, q_AE_thenL_eq_2, q_AE_inBlockL_eq_2, q_putK_eq_1, q_vBin_eq_1, q_resV_eq_1, q_binV_eq_1, q_binInt_eq_3, q_cutInt_eq_6, q_cutInt_eq_8, q_vFaddr_eq_1, q_vFaddr_eq_3, q_partV_eq_2, q_loadO_eq_1, q_isV_eq_1, q_vLoad_eq_1, q_vLoad_eq_2, q_vIaddr_eq_1, q_vPick_eq_3, q_ofRow_eq_1, q_pureRow_eq_1, q_pureRow_eq_2, q_isVarO_eq_1, q_mapT_eq_1, q_mapT_eq_2, q_mapO_eq_1, q_mapO_eq_2, q_delO_eq_1, q_delO_eq_2, q_Bool_not_true, q_Option_map_some, q_List_map_cons, q_List_map_nil, q_List_take_succ_cons, q_List_take_zero, q_List_drop_zero, q_List_length_cons, q_List_length_nil, true_and, and_true, if_true, if_false, Bool.false_eq_true, false_implies, forall_const, Nat.reduceAdd, Nat.reduceEqDiff, Nat.reduceLeDiff, Nat.reduceBEq, Nat.zero_add, Nat.add_zero, Int.toNat_zero, q_learn_eq_1, not_false_eq_true, q_guardP_eq_1, q_condK_eq_1, q_condB_eq_1, q_condB_eq_2, q_exK_eq_1, condB_beq, decide_false, List.length_map, lookT_here, lookT_next, Int.reduceLE, lookO_here, lookO_next, z_V_k, z_K_c, z_O_var, z_O_arr, z_frzT, z_frzO, q_awl_eq_14, z_K_own_arr, z_K_ptr_arr, uf64r8, uf64b9, uf64b10, uf64b15, uf64r16, uf64b17, uf64b18, uf64b25, uf64b26, uf64r27, uf64b28]
        refine call_r s77' ?_
        obtain ⟨kv, nv, hev⟩ : ∃ k n, evalN t.op cs = Cell.mk k n := ⟨_, _, rfl⟩
        have hvr := vr_eval hw cells
        rw [ev] at hvr
        rw [hev] at ev rn hvr ⊢
        cases kv
        · simp only [encCV, encCell, q_wpLs_eq_1, q_wpLs_eq_2, q_wpL_eq_1, q_exL_eq_1, q_exL_eq_4, q_exL_eq_6, q_exL_eq_8, q_exL_eq_9, q_exL_eq_21, q_exL_eq_28, q_look_eq_1, q_insT_eq_1, q_insO_eq_1, q_awl_eq_1, q_awl_eq_2, q_awl_eq_5, q_awl_eq_6, q_AE_thenL_eq_1, q_putK_eq_1, q_vFaddr_eq_1, q_loadO_eq_1, q_isV_eq_1, q_vLoad_eq_1, q_vBuild_eq_1, q_rowV_eq_1, q_ofRow_eq_1, q_ofRow_eq_2, q_pureRow_eq_1, q_pureRow_eq_2, q_V_cells_eq_2, q_splice_eq_1, q_isVarO_eq_1, q_stVarK_eq_1, q_storeK_eq_1, q_freeB_eq_1, q_freeT_eq_1, q_freeT_eq_2, q_freeO_eq_1, q_freeO_eq_2, q_V_noRef_eq_1, q_V_noRef_eq_2, q_V_noRef_eq_5, q_K_noRef_eq_1, q_K_noRef_eq_3, q_O_noRef_eq_1, q_regN_eq_2, q_V_reg_eq_4, q_freesL_eq_1, q_addsL_eq_1, q_regK_eq_1, q_retK_eq_2, q_Option_map_some, q_List_map_cons, q_List_map_nil, q_List_take_succ_cons, q_List_take_zero, q_List_drop_succ_cons, q_List_drop_zero, q_List_nil_append, q_List_length_cons, q_List_length_nil, q_List_all_cons, q_List_all_nil, true_and, if_true, if_false, Bool.false_eq_true, and_self, bne_iff_ne, ne_eq, Bool.and_eq_true, Bool.and_true, Bool.true_and, Bool.or_true, Bool.false_or, List.append_nil, Nat.reduceAdd, Nat.reduceMul, Nat.reduceEqDiff, Nat.reduceLeDiff, Nat.reduceBEq, Nat.zero_add, Nat.add_zero, Nat.le_refl, q_learn_eq_1, not_false_eq_true, q_condK_eq_1, q_condB_eq_2, lookT_here, lookT_next, lookO_here, uf64r1, uf64b2, uf64b5, uf64r6, uf64b7]
          refine call_l (s78 rs hflat) ?_
          simp only [q_wpLs_eq_1, q_wpLs_eq_2, q_wpL_eq_1, q_exL_eq_1, q_exL_eq_9, q_look_eq_1, q_insT_eq_1, q_insO_eq_1, q_awl_eq_10, q_ofRow_eq_2, q_pureRow_eq_1, q_pureRow_eq_2, q_V_cells_eq_2, q_splice_eq_1, q_isArrO_eq_1, q_stVarK_eq_1, q_storeK_eq_1, q_mapT_eq_1, q_mapT_eq_2, q_mapO_eq_1, q_mapO_eq_2, q_endK_eq_2, q_endL_eq_1, q_endV_eq_1, q_resL_eq_1, q_resL_eq_2, q_resX_eq_1, q_resX_eq_2, q_resCell_eq_1, q_one_eq_2, q_V_nrm_eq_1, q_V_nrm_eq_2, q_V_nrm_eq_5, q_K_nrm_eq_1, q_K_nrm_eq_3, q_O_nrm_eq_1, q_O_nrm_eq_2, q_V_owns_eq_1, q_V_owns_eq_3, q_V_owns_eq_4, q_K_owns_eq_1, q_V_ownsL_eq_1, q_V_ownsL_eq_2, q_V_toNew_eq_1, q_V_toNew_eq_2, q_V_toNew_eq_4, q_K_toNew_eq_2, q_V_toNewL_eq_1, q_V_toNewL_eq_2, q_C_norm_eq_1, q_C_norm_eq_4, q_C_norm_eq_5, q_C_normRow_eq_1, q_C_normRow_eq_2, q_Option_map_some, q_List_map_cons, q_List_map_nil, q_List_take_succ_cons, q_List_take_zero, q_List_drop_succ_cons, q_List_drop_zero, q_List_nil_append, q_List_length_cons, q_List_length_nil, true_and, if_true, and_self, List.append_nil, List.nodup_nil, List.nodup_cons, Nat.reduceAdd, Nat.reduceLT, Nat.reduceBEq, Nat.zero_add, Nat.le_refl, not_false_eq_true, norm_lst, normRows_T, normRows_Ce, normRows_ints, lookT_here, lookT_next, lookO_here, lookO_next, List.not_mem_nil]
          exact fin_run hS rfl (by rw [ev]; have : nv = 0 := (by simpa [VR] using hvr); rw [this]) (by rw [rn]; simp [V.fz, Abs.K.fz, V.nrm, Abs.K.nrm, norm_list])
        · simp only [encCV, encCell, q_wpLs_eq_1, q_wpLs_eq_2, q_wpL_eq_1, q_exL_eq_2, q_exL_eq_4, q_exL_eq_8, q_exL_eq_9, q_exL_eq_21, q_look_eq_1, q_insT_eq_1, q_insO_eq_1, q_awl_eq_2, q_awl_eq_5, q_awl_eq_6, q_awl_eq_10, q_AE_thenL_eq_1, q_AE_thenL_eq_3, q_putK_eq_1, q_vFaddr_eq_1, q_loadO_eq_1, q_isV_eq_1, q_vLoad_eq_1, q_ofRow_eq_1, q_ofRow_eq_2, q_pureRow_eq_1, q_pureRow_eq_2, q_V_cells_eq_2, q_splice_eq_1, q_isVarO_eq_1, q_isArrO_eq_1, q_stVarK_eq_1, q_storeK_eq_1, q_mapT_eq_1, q_mapT_eq_2, q_mapO_eq_1, q_mapO_eq_2, q_freeB_eq_1, q_freeT_eq_1, q_freeT_eq_2, q_freeO_eq_1, q_freeO_eq_2, q_V_noRef_eq_1, q_V_noRef_eq_2, q_V_noRef_eq_5, q_K_noRef_eq_1, q_K_noRef_eq_3, q_O_noRef_eq_1, q_endK_eq_2, q_endL_eq_1, q_endV_eq_1, q_resL_eq_1, q_resL_eq_2, q_resX_eq_1, q_resX_eq_2, q_resCell_eq_1, q_one_eq_2, q_V_nrm_eq_1, q_V_nrm_eq_2, q_V_nrm_eq_5, q_K_nrm_eq_1, q_K_nrm_eq_3, q_O_nrm_eq_1, q_O_nrm_eq_2, q_V_owns_eq_1, q_V_owns_eq_3, q_V_owns_eq_4, q_K_owns_eq_1, q_V_ownsL_eq_1, q_V_ownsL_eq_2, q_V_toNew_eq_1, q_V_toNew_eq_2, q_V_toNew_eq_4, q_K_toNew_eq_2, q_V_toNewL_eq_1, q_V_toNewL_eq_2, q_C_norm_eq_1, q_C_norm_eq_4, q_C_norm_eq_5, q_C_normRow_eq_1, q_C_normRow_eq_2, q_C_normRows_eq_1, q_regN_eq_2, q_V_reg_eq_4, q_freesL_eq_1, q_addsL_eq_1, q_regK_eq_1, q_retK_eq_2, q_Option_map_some, q_List_map_cons, q_List_map_nil, q_List_take_succ_cons, q_List_take_zero, q_List_drop_succ_cons, q_List_drop_zero, q_List_nil_append, q_List_length_cons, q_List_length_nil, q_List_all_cons, q_List_all_nil, true_and, if_true, if_false, Bool.false_eq_true, and_self, bne_iff_ne, ne_eq, Bool.and_eq_true, Bool.and_true, Bool.true_and, Bool.or_true, Bool.false_or, List.append_nil, List.nodup_nil, List.nodup_cons, Nat.reduceAdd, Nat.reduceMul, Nat.reduceEqDiff, Nat.reduceLeDiff, Nat.reduceLT, Nat.reduceBEq, Nat.zero_add, Nat.add_zero, Nat.le_refl, q_learn_eq_1, not_false_eq_true, q_condK_eq_1, q_condB_eq_1, norm_lst, normRows_T, normRows_Ce, lookT_here, lookT_next, lookO_here, lookO_next, List.not_mem_nil, uf64r3, uf64b4, uf64b5, uf64r6, uf64b7]
          exact fin_run hS rfl (by rw [ev]) (by rw [rn]; simp [V.fz, Abs.K.fz, V.nrm, Abs.K.nrm, norm_list, ints])
  exact Term.ind fun o n a ih => main _ ih
end Go.Abs


set_option maxRecDepth 100000
set_option maxHeartbeats 4000000
namespace Go.Abs
open Go.Proofs
theorem sz_of_check {t : Term} (h : (checkT t).2 = 0) : (chk t).2 = 0 ∧ checkT t = chk t ∧ szT t ≤ 60 := by
  unfold checkT at h ⊢
  split at h
  · simp at h
  · rename_i hn
    rw [if_neg hn]
    have := (szT_nodes 8).1 t 60 (by simp; omega)
    refine ⟨h, rfl, ?_⟩
    simp at this
    omega
theorem s37 (t : Term) (cells : List Cell) : Spec Try.prog 37 [.agg (encT t), lst 2 (cells.map encCell)] (fun r => r = encCV (evalT t cells)) := by
  refine Spec.of_awlS hf37 okf37 (by simp) fun S hS => ?_
  simp only [encT_eq, q_wpLs_eq_1, q_wpLs_eq_2, q_wpL_eq_1, q_exL_eq_4, q_exL_eq_5, q_exL_eq_8, q_exL_eq_28, q_look_eq_1, q_insT_eq_1, q_insO_eq_1, q_awl_eq_2, q_awl_eq_5, q_AE_thenL_eq_1, q_initT_eq_1, q_initT_eq_2, q_putK_eq_1, q_loadO_eq_1, q_isV_eq_1, q_vLoad_eq_1, q_ofRow_eq_2, q_pureRow_eq_1, q_pureRow_eq_2, q_boxK_eq_1, q_freeB_eq_1, q_freeT_eq_1, q_freeT_eq_2, q_freeO_eq_1, q_freeO_eq_2, q_V_noRef_eq_1, q_V_noRef_eq_2, q_K_noRef_eq_1, q_K_noRef_eq_3, q_O_noRef_eq_1, q_Option_map_some, q_List_map_cons, q_List_map_nil, q_List_take_succ_cons, q_List_take_zero, q_List_drop_zero, q_List_length_cons, q_List_length_nil, q_List_all_cons, q_List_all_nil, true_and, if_true, bne_iff_ne, ne_eq, Bool.and_true, Bool.or_true, Bool.false_or, Nat.reduceAdd, Nat.reduceEqDiff, Nat.reduceBEq, Nat.zero_add, Nat.le_refl, not_false_eq_true, lookT_here, lookT_next, lookO_here, lookO_next, uf37, uf37r10, uf37b11, uf37b12, uf37r13, uf37b14]
  refine call_s (s31 t) ?_
  by_cases h : (checkT t).2 = 0
  · obtain ⟨hc, he, hsz⟩ := sz_of_check h
    have hw := wt_of t hc
    rw [evalT, if_neg (by simp [h])] at hS
    simp only [pairV, h, q_wpLs_eq_1, q_wpLs_eq_2, q_wpL_eq_1, q_exL_eq_1, q_exL_eq_6, q_exL_eq_8, q_exL_eq_11, q_exL_eq_27, q_exL_eq_28, q_look_eq_1, q_look_eq_2, q_insT_eq_1, q_awl_eq_1, q_awl_eq_2, q_awl_eq_5, q_awl_eq_6, q_AE_thenL_eq_1, q_putK_eq_1, q_vBin_eq_1, q_resV_eq_1, q_binV_eq_1, q_binInt_eq_3, q_cutInt_eq_7, q_vExtr_eq_1, q_loadO_eq_1, q_isV_eq_1, q_vLoad_eq_1, q_vBuild_eq_1, q_vBuild_eq_2, q_rowV_eq_1, q_ofRow_eq_1, q_ofRow_eq_2, q_pureRow_eq_1, q_pureRow_eq_2, q_V_cells_eq_1, q_splice_eq_1, q_Option_map_some, q_List_map_cons, q_List_map_nil, q_List_take_succ_cons, q_List_take_zero, q_List_drop_succ_cons, q_List_drop_zero, q_List_nil_append, q_List_length_cons, q_List_length_nil, q_List_getElemQ_cons_zero, q_List_getElemQ_cons_succ, true_and, if_true, and_self, List.append_nil, Nat.reduceAdd, Nat.reduceBEq, Nat.zero_add, Nat.le_refl, q_learn_eq_1, q_condK_eq_1, q_condB_eq_2, lookT_here, lookT_next, Int.reduceBNe, lookO_here, lookO_next, uf37r3, uf37b4, uf37b7, uf37r8, uf37b9]
    refine call_r (s64 t _ hw (by omega) cells) ?_
    simp only [runV, encCell, q_wpLs_eq_1, q_wpLs_eq_2, q_wpL_eq_1, q_exL_eq_1, q_exL_eq_4, q_exL_eq_8, q_exL_eq_9, q_exL_eq_27, q_look_eq_1, q_insT_eq_1, q_insO_eq_1, q_awl_eq_2, q_awl_eq_5, q_awl_eq_10, q_AE_thenL_eq_1, q_putK_eq_1, q_vExtr_eq_1, q_loadO_eq_1, q_isV_eq_1, q_vLoad_eq_1, q_ofRow_eq_2, q_pureRow_eq_1, q_pureRow_eq_2, q_V_cells_eq_2, q_splice_eq_1, q_stVarK_eq_1, q_storeK_eq_1, q_mapT_eq_1, q_mapT_eq_2, q_mapO_eq_1, q_mapO_eq_2, q_freeB_eq_1, q_freeT_eq_1, q_freeT_eq_2, q_freeO_eq_1, q_freeO_eq_2, q_V_noRef_eq_1, q_V_noRef_eq_2, q_V_noRef_eq_4, q_K_noRef_eq_1, q_K_noRef_eq_3, q_O_noRef_eq_1, q_V_noRefL_eq_1, q_V_noRefL_eq_2, q_endK_eq_2, q_endL_eq_1, q_endV_eq_1, q_resL_eq_1, q_resL_eq_2, q_resX_eq_2, q_resCell_eq_1, q_one_eq_1, q_V_nrm_eq_1, q_V_nrm_eq_2, q_V_nrm_eq_4, q_K_nrm_eq_1, q_K_nrm_eq_3, q_V_nrmL_eq_1, q_V_nrmL_eq_2, q_O_nrm_eq_1, q_V_owns_eq_4, q_V_toNew_eq_2, q_C_norm_eq_4, q_C_norm_eq_5, q_C_normRow_eq_1, q_C_normRow_eq_2, q_regN_eq_2, q_V_reg_eq_3, q_V_reg_eq_4, q_V_regL_eq_1, q_V_regL_eq_2, q_freesL_eq_1, q_addsL_eq_1, q_regK_eq_1, q_retK_eq_2, q_Option_map_some, q_List_map_cons, q_List_map_nil, q_List_take_succ_cons, q_List_take_zero, q_List_drop_succ_cons, q_List_drop_zero, q_List_nil_append, q_List_length_cons, q_List_length_nil, q_List_getElemQ_cons_zero, q_List_getElemQ_cons_succ, q_List_all_cons, q_List_all_nil, true_and, if_true, and_self, bne_iff_ne, ne_eq, Bool.and_eq_true, Bool.and_true, Bool.true_and, Bool.or_true, Bool.false_or, List.append_nil, List.nodup_nil, Nat.reduceAdd, Nat.reduceMul, Nat.reduceEqDiff, Nat.reduceLT, Nat.reduceBEq, Nat.zero_add, Nat.add_zero, Nat.le_refl, not_false_eq_true, norm_lst, normRows_T, normRows_Ce, normRows_ints, lookT_here, lookT_next, lookO_here, lookO_next, uf37r1, uf37b2]
    exact fin_cell hS rfl
  · rw [evalT, if_pos h] at hS
    simp only [pairV, h, q_wpLs_eq_1, q_wpLs_eq_2, q_wpL_eq_1, q_exL_eq_1, q_exL_eq_6, q_exL_eq_8, q_exL_eq_9, q_exL_eq_11, q_exL_eq_27, q_exL_eq_28, q_look_eq_1, q_look_eq_2, q_insT_eq_1, q_insO_eq_1, q_awl_eq_1, q_awl_eq_2, q_awl_eq_5, q_awl_eq_6, q_awl_eq_10, q_AE_thenL_eq_1, q_AE_thenL_eq_3, q_putK_eq_1, q_vBin_eq_1, q_resV_eq_1, q_binV_eq_1, q_binInt_eq_3, q_cutInt_eq_7, q_vExtr_eq_1, q_loadO_eq_1, q_isV_eq_1, q_vLoad_eq_1, q_vBuild_eq_1, q_vBuild_eq_2, q_rowV_eq_1, q_ofRow_eq_1, q_ofRow_eq_2, q_pureRow_eq_1, q_pureRow_eq_2, q_V_cells_eq_1, q_V_cells_eq_2, q_splice_eq_1, q_stVarK_eq_1, q_storeK_eq_1, q_mapT_eq_1, q_mapT_eq_2, q_mapO_eq_1, q_mapO_eq_2, q_endK_eq_2, q_endL_eq_1, q_endV_eq_1, q_resL_eq_1, q_resL_eq_2, q_resX_eq_2, q_resCell_eq_1, q_one_eq_1, q_V_nrm_eq_1, q_V_nrm_eq_2, q_V_nrm_eq_4, q_K_nrm_eq_1, q_K_nrm_eq_3, q_V_nrmL_eq_1, q_V_nrmL_eq_2, q_O_nrm_eq_1, q_V_owns_eq_4, q_V_toNew_eq_2, q_C_norm_eq_4, q_C_norm_eq_5, q_C_normRow_eq_1, q_C_normRow_eq_2, q_Option_map_some, q_List_map_cons, q_List_map_nil, q_List_take_succ_cons, q_List_take_zero, q_List_drop_succ_cons, q_List_drop_zero, q_List_nil_append, q_List_length_cons, q_List_length_nil, q_List_getElemQ_cons_zero, q_List_getElemQ_cons_succ, true_and, and_true, if_true, false_implies, forall_const, and_self, List.append_nil, List.nodup_nil, Nat.reduceAdd, Nat.reduceLT, Nat.reduceBEq, Nat.zero_add, Nat.le_refl, q_learn_eq_1, not_false_eq_true, q_condK_eq_1, condB_bne, norm_lst, normRows_T, normRows_Ce, lookT_here, lookT_next, lookO_here, lookO_next, uf37r3, uf37b4, uf37r5, uf37b6, uf37b7, uf37r8, uf37b9]
    exact fin_cell hS rfl
end Go.Abs


set_option maxRecDepth 100000
set_option maxHeartbeats 4000000
namespace Go.Abs
open Go.Proofs
theorem take_snoc {α : Type} (f : α → List C) {l : List α} {i : Nat} (h : i < l.length) : (l.take i).map f ++ [f l[i]] = (l.take (i + 1)).map f := by
  rw [List.take_add_one, List.getElem?_eq_getElem h, List.map_append]; rfl
theorem s65 : ∀ (t : Term) (k : Int), WT t k → ∀ cells : List Cell, Spec Try.prog 65 [.agg (encT t), lst 2 (cells.map encCell)] (fun r => r = encCV (eval t cells)) := by
  have main : ∀ t : Term, (∀ x ∈ t.args, ∀ (k : Int), WT x k → ∀ cells : List Cell, Spec Try.prog 65 [.agg (encT x), lst 2 (cells.map encCell)] (fun r => r = encCV (eval x cells))) →
      ∀ (k : Int), WT t k → ∀ cells : List Cell, Spec Try.prog 65 [.agg (encT t), lst 2 (cells.map encCell)] (fun r => r = encCV (eval t cells)) := by
    intro t ih k hw cells
    obtain ⟨w1, w2⟩ := wt_low hw
    refine Spec.of_awlS hf65 okf65 (by simp) fun S hS => ?_
    by_cases h0 : t.op = 0
    · have ev : eval t cells = ⟨true, t.n⟩ := by rw [eval_eq]; simp [h0]
      simp only [encT_eq, h0, q_wpLs_eq_1, q_wpLs_eq_2, q_wpL_eq_1, q_exL_eq_1, q_exL_eq_4, q_exL_eq_5, q_exL_eq_6, q_exL_eq_8, q_exL_eq_9, q_exL_eq_11, q_exL_eq_21, q_look_eq_1, q_look_eq_2, q_insT_eq_1, q_insO_eq_1, q_awl_eq_1, q_awl_eq_2, q_awl_eq_5, q_awl_eq_6, q_awl_eq_7, q_awl_eq_10, q_AE_thenL_eq_1, q_AE_thenL_eq_3, q_AE_inBlockL_eq_3, q_initT_eq_1, q_initT_eq_2, q_putK_eq_1, q_vBin_eq_1, q_resV_eq_1, q_binV_eq_1, q_binInt_eq_3, q_cutInt_eq_6, q_vFaddr_eq_1, q_loadO_eq_1, q_isV_eq_1, q_vLoad_eq_1, q_vBuild_eq_1, q_vBuild_eq_2, q_rowV_eq_1, q_ofRow_eq_1, q_ofRow_eq_2, q_pureRow_eq_1, q_pureRow_eq_2, q_V_cells_eq_1, q_V_cells_eq_2, q_splice_eq_1, q_isVarO_eq_1, q_boxK_eq_1, q_stVarK_eq_1, q_storeK_eq_1, q_mapT_eq_1, q_mapT_eq_2, q_mapO_eq_1, q_mapO_eq_2, q_freeB_eq_1, q_freeT_eq_1, q_freeT_eq_2, q_freeO_eq_1, q_freeO_eq_2, q_V_noRef_eq_1, q_V_noRef_eq_2, q_K_noRef_eq_1, q_K_noRef_eq_3, q_O_noRef_eq_1, q_endK_eq_2, q_endL_eq_1, q_endV_eq_1, q_resL_eq_1, q_resL_eq_2, q_resX_eq_2, q_resCell_eq_1, q_one_eq_1, q_V_nrm_eq_1, q_V_nrm_eq_2, q_K_nrm_eq_1, q_K_nrm_eq_3, q_O_nrm_eq_1, q_V_owns_eq_4, q_V_toNew_eq_2, q_C_norm_eq_4, q_C_norm_eq_5, q_C_normRow_eq_1, q_C_normRow_eq_2, q_Option_map_some, q_List_map_cons, q_List_map_nil, q_List_take_succ_cons, q_List_take_zero, q_List_drop_succ_cons, q_List_drop_zero, q_List_nil_append, q_List_cons_append, q_List_length_cons, q_List_length_nil, q_List_all_cons, q_List_all_nil, true_and, if_true, if_false, Bool.false_eq_true, and_self, bne_iff_ne, ne_eq, Bool.and_true, Bool.or_true, Bool.false_or, BEq.rfl, List.append_nil, List.nodup_nil, Nat.reduceAdd, Nat.reduceEqDiff, Nat.reduceLeDiff, Nat.reduceLT, Nat.reduceBEq, Nat.zero_add, Nat.add_zero, Nat.le_refl, q_learn_eq_1, not_false_eq_true, q_condK_eq_1, q_condB_eq_1, norm_lst, normRows_T, normRows_Ce, lookT_here, lookT_next, lookO_here, lookO_next, uf65, uf65r66, uf65b67, uf65b73, uf65r74, uf65b75, uf65r76, uf65b77, uf65b78, uf65b79, uf65r80, uf65b81, uf65b82, uf65r83, uf65b84]
      exact fin_cell hS (by rw [ev])
    by_cases h1 : t.op = 1
    · have ev : eval t cells = ⟨true, t.n⟩ := by rw [eval_eq]; simp [h1]
      simp only [encT_eq, h1, q_wpLs_eq_1, q_wpLs_eq_2, q_wpL_eq_1, q_exL_eq_1, q_exL_eq_4, q_exL_eq_5, q_exL_eq_6, q_exL_eq_8, q_exL_eq_9, q_exL_eq_11, q_exL_eq_21, q_look_eq_1, q_look_eq_2, q_insT_eq_1, q_insO_eq_1, q_awl_eq_2, q_awl_eq_5, q_awl_eq_6, q_awl_eq_7, q_awl_eq_10, q_AE_thenL_eq_1, q_AE_thenL_eq_3, q_AE_inBlockL_eq_3, q_initT_eq_1, q_initT_eq_2, q_putK_eq_1, q_vBin_eq_1, q_resV_eq_1, q_binV_eq_1, q_binInt_eq_3, q_cutInt_eq_6, q_vFaddr_eq_1, q_loadO_eq_1, q_isV_eq_1, q_vLoad_eq_1, q_vBuild_eq_1, q_vBuild_eq_2, q_rowV_eq_1, q_ofRow_eq_1, q_ofRow_eq_2, q_pureRow_eq_1, q_pureRow_eq_2, q_V_cells_eq_1, q_V_cells_eq_2, q_splice_eq_1, q_isVarO_eq_1, q_boxK_eq_1, q_stVarK_eq_1, q_storeK_eq_1, q_mapT_eq_1, q_mapT_eq_2, q_mapO_eq_1, q_mapO_eq_2, q_freeB_eq_1, q_freeT_eq_1, q_freeT_eq_2, q_freeO_eq_1, q_freeO_eq_2, q_V_noRef_eq_1, q_V_noRef_eq_2, q_K_noRef_eq_1, q_K_noRef_eq_3, q_O_noRef_eq_1, q_endK_eq_2, q_endL_eq_1, q_endV_eq_1, q_resL_eq_1, q_resL_eq_2, q_resX_eq_2, q_resCell_eq_1, q_one_eq_1, q_V_nrm_eq_1, q_V_nrm_eq_2, q_K_nrm_eq_1, q_K_nrm_eq_3, q_O_nrm_eq_1, q_V_owns_eq_4, q_V_toNew_eq_2, q_C_norm_eq_4, q_C_norm_eq_5, q_C_normRow_eq_1, q_C_normRow_eq_2, q_Option_map_some, q_List_map_cons, q_List_map_nil, q_List_take_succ_cons, q_List_take_zero, q_List_drop_succ_cons, q_List_drop_zero, q_List_nil_append, q_List_cons_append, q_List_length_cons, q_List_length_nil, q_List_all_cons, q_List_all_nil, true_and, if_true, if_false, Bool.false_eq_true, and_self, bne_iff_ne, ne_eq, Bool.and_true, Bool.or_true, Bool.false_or, BEq.rfl, List.append_nil, List.nodup_nil, Nat.reduceAdd, Nat.reduceEqDiff, Nat.reduceLeDiff, Nat.reduceLT, Nat.reduceBEq, Nat.zero_add, Nat.add_zero, Nat.le_refl, q_learn_eq_1, not_false_eq_true, q_condK_eq_1, q_condB_eq_1, q_condB_eq_2, norm_lst, normRows_T, normRows_Ce, lookT_here, lookT_next, Int.reduceBEq, lookO_here, lookO_next, uf65, uf65r66, uf65b67, uf65b73, uf65r74, uf65b75, uf65r76, uf65b77, uf65b78, uf65b79, uf65r80, uf65b81, uf65b82, uf65r83, uf65b84]
      exact fin_cell hS (by rw [ev])
    by_cases h2 : t.op = 2
    · have ev : eval t cells = valueC t.n cells := by rw [eval_eq]; simp [h2]
      rw [ev] at hS
      simp only [encT_eq, h2, q_wpLs_eq_1, q_wpLs_eq_2, q_wpL_eq_1, q_exL_eq_1, q_exL_eq_4, q_exL_eq_5, q_exL_eq_8, q_exL_eq_11, q_exL_eq_21, q_exL_eq_28, q_look_eq_1, q_look_eq_2, q_insT_eq_1, q_insO_eq_1, q_awl_eq_2, q_awl_eq_5, q_awl_eq_6, q_awl_eq_7, q_AE_thenL_eq_1, q_initT_eq_1, q_initT_eq_2, q_putK_eq_1, q_vBin_eq_1, q_resV_eq_1, q_binV_eq_1, q_binInt_eq_3, q_cutInt_eq_6, q_vFaddr_eq_1, q_loadO_eq_1, q_isV_eq_1, q_vLoad_eq_1, q_ofRow_eq_1, q_pureRow_eq_1, q_pureRow_eq_2, q_isVarO_eq_1, q_boxK_eq_1, q_freeB_eq_1, q_freeT_eq_1, q_freeT_eq_2, q_freeO_eq_1, q_freeO_eq_2, q_V_noRef_eq_1, q_V_noRef_eq_2, q_K_noRef_eq_1, q_K_noRef_eq_3, q_O_noRef_eq_1, q_Option_map_some, q_List_map_cons, q_List_map_nil, q_List_take_succ_cons, q_List_take_zero, q_List_drop_succ_cons, q_List_drop_zero, q_List_length_cons, q_List_length_nil, q_List_all_cons, q_List_all_nil, true_and, if_true, if_false, Bool.false_eq_true, bne_iff_ne, ne_eq, Bool.and_true, Bool.or_true, Bool.false_or, BEq.rfl, Nat.reduceAdd, Nat.reduceEqDiff, Nat.reduceLeDiff, Nat.reduceBEq, Nat.zero_add, Nat.add_zero, q_learn_eq_1, not_false_eq_true, q_condK_eq_1, q_condB_eq_1, q_condB_eq_2, lookT_here, lookT_next, Int.reduceBEq, lookO_here, lookO_next, uf65, uf65r68, uf65b69, uf65b70, uf65r71, uf65b72, uf65b73, uf65r74, uf65b75, uf65r76, uf65b77, uf65b78, uf65b79, uf65r80, uf65b81, uf65b82, uf65r83, uf65b84]
      refine call_r (s79 t.n cells) ?_
      simp only [encCV, encCell, q_wpLs_eq_1, q_wpLs_eq_2, q_wpL_eq_1, q_exL_eq_9, q_look_eq_1, q_insT_eq_1, q_insO_eq_1, q_awl_eq_10, q_AE_thenL_eq_3, q_AE_inBlockL_eq_3, q_ofRow_eq_2, q_pureRow_eq_1, q_pureRow_eq_2, q_V_cells_eq_2, q_splice_eq_1, q_stVarK_eq_1, q_storeK_eq_1, q_mapT_eq_1, q_mapT_eq_2, q_mapO_eq_1, q_mapO_eq_2, q_endK_eq_2, q_endL_eq_1, q_endV_eq_1, q_resL_eq_1, q_resL_eq_2, q_resX_eq_2, q_resCell_eq_1, q_one_eq_1, q_V_nrm_eq_1, q_V_nrm_eq_2, q_K_nrm_eq_1, q_K_nrm_eq_3, q_O_nrm_eq_1, q_V_owns_eq_4, q_V_toNew_eq_2, q_C_norm_eq_4, q_C_norm_eq_5, q_C_normRow_eq_1, q_C_normRow_eq_2, q_regN_eq_2, q_V_reg_eq_4, q_freesL_eq_1, q_addsL_eq_1, q_regK_eq_1, q_retK_eq_2, q_Option_map_some, q_List_map_cons, q_List_map_nil, q_List_take_succ_cons, q_List_take_zero, q_List_drop_succ_cons, q_List_drop_zero, q_List_nil_append, q_List_length_cons, q_List_length_nil, true_and, if_true, and_self, List.append_nil, List.nodup_nil, Nat.reduceAdd, Nat.reduceMul, Nat.reduceLT, Nat.reduceBEq, Nat.zero_add, Nat.le_refl, norm_lst, normRows_T, normRows_Ce, lookT_here, lookT_next, lookO_here]
      exact fin_cell hS rfl
    have h3 : 3 ≤ t.op := by omega
    obtain ⟨g13, gar, gwt, gfirst⟩ := wt_args hw h3
    have hl3 : t.args.length ≤ 3 := by have : arity t.op ≤ 3 := by { unfold arity; (repeat' split) <;> omega }; omega
    simp only [encT_eq, h0, h1, h2, q_wpLs_eq_1, q_wpLs_eq_2, q_wpL_eq_1, q_exL_eq_1, q_exL_eq_4, q_exL_eq_5, q_exL_eq_6, q_exL_eq_7, q_exL_eq_8, q_exL_eq_9, q_exL_eq_11, q_exL_eq_21, q_exL_eq_28, q_look_eq_1, q_look_eq_2, q_insT_eq_1, q_insO_eq_1, q_awl_eq_1, q_awl_eq_2, q_awl_eq_5, q_awl_eq_6, q_awl_eq_7, q_awl_eq_10, q_AE_thenL_eq_1, q_AE_thenL_eq_3, q_AE_inBlockL_eq_1, q_AE_inBlockL_eq_3, q_initT_eq_1, q_initT_eq_2, q_putK_eq_1, q_vBin_eq_1, q_resV_eq_1, q_binV_eq_1, q_binInt_eq_3, q_cutInt_eq_6, q_vFaddr_eq_1, q_loadO_eq_1, q_isV_eq_1, q_vLoad_eq_1, q_vBuild_eq_1, q_vBuild_eq_2, q_rowV_eq_1, q_ofRow_eq_1, q_ofRow_eq_2, q_pureRow_eq_1, q_pureRow_eq_2, q_V_cells_eq_1, q_V_cells_eq_2, q_splice_eq_1, q_isVarO_eq_1, q_boxK_eq_1, q_vLits_eq_1, q_bsK_eq_1, q_stVarK_eq_1, q_storeK_eq_1, q_mapT_eq_1, q_mapT_eq_2, q_mapO_eq_1, q_mapO_eq_2, q_freeB_eq_1, q_freeT_eq_1, q_freeT_eq_2, q_freeO_eq_1, q_freeO_eq_2, q_V_noRef_eq_1, q_V_noRef_eq_2, q_K_noRef_eq_1, q_K_noRef_eq_3, q_O_noRef_eq_1, q_endK_eq_2, q_endL_eq_1, q_endV_eq_1, q_resL_eq_1, q_resL_eq_2, q_resX_eq_2, q_resCell_eq_1, q_one_eq_1, q_V_nrm_eq_1, q_V_nrm_eq_2, q_K_nrm_eq_1, q_K_nrm_eq_3, q_O_nrm_eq_1, q_V_owns_eq_4, q_V_toNew_eq_2, q_C_norm_eq_4, q_C_norm_eq_5, q_C_normRow_eq_1, q_C_normRow_eq_2, q_Option_map_some, q_List_map_cons, q_List_map_nil, q_List_take_succ_cons, q_List_take_zero, q_List_drop_succ_cons, q_List_drop_zero, q_List_nil_append, q_List_cons_append, q_List_foldl_nil, q_List_replicate_zero, q_List_length_cons, q_List_length_nil, q_List_all_cons, q_List_all_nil, true_and, if_true, if_false, Bool.false_eq_true, false_implies, implies_true, forall_const, and_self, bne_iff_ne, ne_eq, Bool.and_eq_true, Bool.and_true, Bool.true_and, Bool.or_true, Bool.false_or, List.append_nil, List.nodup_nil, Nat.reduceAdd, Nat.reduceEqDiff, Nat.reduceLeDiff, Nat.reduceLT, Nat.reduceBEq, Nat.zero_add, Nat.add_zero, Nat.le_refl, q_learn_eq_1, not_false_eq_true, q_condK_eq_1, q_condB_eq_1, condB_beq, norm_lst, normRows_T, normRows_Ce, lookT_here, lookT_next, lookO_here, lookO_next, List.not_mem_nil, implies_true, uf65, uf65b60, uf65r61, uf65b62, uf65b63, uf65r64, uf65b65, uf65r66, uf65b67, uf65r68, uf65b69, uf65b70, uf65r71, uf65b72, uf65b73, uf65r74, uf65b75, uf65r76, uf65b77, uf65b78, uf65b79, uf65r80, uf65b81, uf65b82, uf65r83, uf65b84]
    rw [uf65l59]
    refine awl_loop (fun x : Nat × Option Bool => [(1, lst 2 (cells.map encCell)), (2, .k (.ptr 2 0)), (4, .k (.ptr 4 0)), (5, .k (.own 21)), (6, .int .i64 x.1)])
      (fun x => [(2, .var 41 [.c (.int .i64 t.op), .c (.int .i64 t.n), .c (lstC 3 (t.args.map encT))]), (4, .var 53 [.c (.bool false), .c (.int .i64 0)]), (21, .arr 53 2 x.2 ((t.args.take x.1).map (evR cells)))])
      (fun x => x.1 ≤ t.args.length) (fun x => t.args.length - x.1) (0, some false) rfl rfl (Nat.zero_le _) ?_
    rintro ⟨i, nl⟩ hi
    simp only [] at hi
    by_cases hlt : i < t.args.length
    · have c1 : (i : Int) < t.args.length := by omega
      have c4 : IntKind.i64.wrap ((i : Int) + 1) = (i : Int) + 1 := wrap_in (by omega) (by omega)
      obtain ⟨k', hk'⟩ := gwt t.args[i] (List.getElem_mem hlt)
      have ts := take_snoc (evR cells) hlt
      simp only [evR, encCell] at ts
      have hle : ((t.args.take i).map (evR cells)).length = i := by simp; omega
      simp only [c1, c4, map_at hlt, encT_len, q_wpLs_eq_1, q_wpLs_eq_2, q_wpL_eq_1, q_exL_eq_1, q_exL_eq_8, q_exL_eq_11, q_exL_eq_21, q_exL_eq_23, q_exL_eq_28, q_exL_eq_30, q_look_eq_1, q_insT_eq_1, q_awl_eq_1, q_awl_eq_2, q_awl_eq_5, q_awl_eq_6, q_awl_eq_7, q_AE_thenL_eq_1, q_AE_inBlockL_eq_1, q_putK_eq_1, q_vBin_eq_1, q_resV_eq_1, q_binV_eq_1, q_binInt_eq_3, q_cutInt_eq_8, q_vFaddr_eq_1, q_partV_eq_1, q_loadO_eq_1, q_isV_eq_1, q_vLoad_eq_1, q_vLoad_eq_2, q_ofRow_eq_1, q_pureRow_eq_1, q_pureRow_eq_2, q_isVarO_eq_1, q_Option_map_some, q_List_map_cons, q_List_map_nil, q_List_take_succ_cons, q_List_take_zero, q_List_drop_succ_cons, q_List_drop_zero, q_List_length_cons, q_List_length_nil, true_and, if_true, if_false, Bool.false_eq_true, and_self, Nat.reduceAdd, Nat.reduceBEq, Nat.zero_add, Int.toNat_natCast, Nat.le_refl, Int.natCast_nonneg, q_learn_eq_1, q_condK_eq_1, q_condB_eq_1, decide_true, r_vLen_lst, r_vIaddr_lst, List.length_map, lookT_here, lookT_next, lookO_here, uf65r51, uf65r52, uf65b53, uf65b54, uf65b55, uf65r56, uf65b57, uf65b58]
      refine call_r (ih t.args[i] (List.getElem_mem hlt) k' hk' cells) ?_
      simp only [encCV, encCell, c1, c4, hle, q_wpLs_eq_1, q_wpLs_eq_2, q_wpL_eq_1, q_exL_eq_1, q_exL_eq_7, q_exL_eq_11, q_exL_eq_33, q_look_eq_1, q_look_eq_2, q_insT_eq_1, q_insO_eq_1, q_awl_eq_2, q_AE_thenL_eq_1, q_putK_eq_1, q_vBin_eq_1, q_resV_eq_1, q_binV_eq_1, q_binInt_eq_3, q_cutInt_eq_1, q_nlApp_eq_2, q_vRow_eq_2, q_vLits_eq_1, q_vLits_eq_2, q_bsK_eq_1, q_srcO_eq_1, q_srcV_eq_2, q_appK_eq_1, q_appendK_eq_1, q_mapT_eq_1, q_mapT_eq_2, q_mapO_eq_1, q_mapO_eq_2, q_delO_eq_1, q_delO_eq_2, q_freeB_eq_1, q_freeT_eq_1, q_freeT_eq_2, q_freeO_eq_1, q_freeO_eq_2, q_V_noRef_eq_1, q_V_noRef_eq_2, q_K_noRef_eq_1, q_K_noRef_eq_2, q_K_noRef_eq_3, q_K_noRef_eq_5, q_O_noRef_eq_1, q_O_noRef_eq_2, q_V_scrub_eq_1, q_V_scrub_eq_3, q_K_scrub_eq_1, q_K_scrub_eq_2, q_K_scrub_eq_5, q_O_scrub_eq_1, q_O_scrub_eq_2, q_regN_eq_2, q_V_reg_eq_4, q_freesL_eq_1, q_addsL_eq_1, q_regK_eq_1, q_retK_eq_2, q_List_map_cons, q_List_map_nil, q_List_foldl_cons, q_List_foldl_nil, q_List_replicate_succ, q_List_replicate_zero, q_List_set_cons_zero, q_List_length_cons, q_List_length_nil, q_List_all_cons, q_List_all_nil, true_and, if_true, if_false, forall_eq, or_false, and_self, bne_iff_ne, ne_eq, Bool.and_eq_true, Bool.and_true, Bool.true_and, Bool.or_true, Bool.false_or, List.mem_cons, Nat.reduceAdd, Nat.reduceMul, Nat.reduceEqDiff, Nat.reduceLeDiff, Nat.reduceLT, Nat.reduceBEq, Nat.zero_add, not_false_eq_true, lookT_here, lookT_next, lookO_here, lookO_next, List.not_mem_nil]
      refine ⟨by omega, by omega, Next.intro (i + 1, some false) rfl ?_ (by simp only []; omega) (by simp only []; omega)⟩
      simp only []
      rw [← take_snoc (evR cells) hlt]
      cases nl <;> rfl
    · have c1 : ¬ (i : Int) < t.args.length := by omega
      obtain rfl : i = t.args.length := by omega
      rw [List.take_length, map_evR]
      have hcs : ∀ c ∈ t.args.map (fun a => eval a cells), inN c.n := by
        intro c hc
        obtain ⟨a, ha, rfl⟩ := List.mem_map.1 hc
        obtain ⟨k', hk'⟩ := gwt a ha
        exact vr_in (vr_eval hk' cells)
      have ev : eval t cells = evalN t.op (t.args.map fun a => eval a cells) := by rw [eval_eq, if_neg (by omega), if_neg h2]
      have q0' : 0 < t.args.length := by have : 0 < arity t.op := by { unfold arity; (repeat' split) <;> omega }; omega
      have g0 : (t.op = 3 ∨ t.op = 6) → VR 1 ((t.args.map fun a => eval a cells).getD 0 ⟨false, 0⟩) := by
        intro h
        have := vr_eval (gfirst h q0') cells
        simpa [List.getD_eq_getElem?_getD, List.getElem?_eq_getElem q0'] using this
      have lcs : (t.args.map fun a => eval a cells).length = t.args.length := by simp
      generalize (t.args.map fun a => eval a cells) = cs at *
      rw [ev] at hS
      have q0 : 0 < cs.length := by omega
      have i0 : (0 : Int) < cs.length := by omega
      obtain ⟨k0, n0, e0⟩ : ∃ k n, cs[0] = Cell.mk k n := ⟨_, _, rfl⟩
      have d0 : cs.getD 0 ⟨false, 0⟩ = ⟨k0, n0⟩ := by simp [List.getD_eq_getElem?_getD, List.getElem?_eq_getElem q0, e0]
      rw [d0] at g0
      have b0 : inN n0 := by have := hcs cs[0] (List.getElem_mem q0); rw [e0] at this; exact this
      by_cases c3 : t.op = 3
      · rw [c3] at hS
        cases k0
        · simp only [c1, c3, i0, cell_at q0, e0, List.length_map, q_wpLs_eq_1, q_wpLs_eq_2, q_wpL_eq_1, q_exL_eq_1, q_exL_eq_6, q_exL_eq_8, q_exL_eq_9, q_exL_eq_11, q_exL_eq_15, q_exL_eq_21, q_exL_eq_23, q_exL_eq_30, q_look_eq_1, q_look_eq_2, q_insT_eq_1, q_insO_eq_1, q_awl_eq_2, q_awl_eq_5, q_awl_eq_6, q_awl_eq_7, q_awl_eq_9, q_awl_eq_10, q_AE_thenL_eq_1, q_AE_thenL_eq_2, q_AE_thenL_eq_3, q_AE_inBlockL_eq_2, q_AE_inBlockL_eq_3, q_putK_eq_1, q_vBin_eq_1, q_resV_eq_1, q_binV_eq_1, q_binInt_eq_3, q_cutInt_eq_6, q_cutInt_eq_8, q_vUn_eq_1, q_unV_eq_2, q_mapC_eq_1, q_vFaddr_eq_1, q_vFaddr_eq_2, q_partV_eq_2, q_loadO_eq_1, q_loadO_eq_2, q_isV_eq_1, q_isA_eq_1, q_vLoad_eq_1, q_vLoad_eq_3, q_vIaddr_eq_2, q_idxO_eq_1, q_vBuild_eq_1, q_rowV_eq_1, q_ofRow_eq_1, q_ofRow_eq_2, q_pureRow_eq_1, q_pureRow_eq_2, q_V_cells_eq_2, q_splice_eq_1, q_isVarO_eq_1, q_isArrO_eq_1, q_stVarK_eq_1, q_storeK_eq_1, q_mapT_eq_1, q_mapT_eq_2, q_mapO_eq_1, q_mapO_eq_2, q_endK_eq_2, q_endL_eq_1, q_endV_eq_1, q_resL_eq_1, q_resL_eq_2, q_resX_eq_2, q_resCell_eq_1, q_one_eq_1, q_V_nrm_eq_1, q_V_nrm_eq_2, q_K_nrm_eq_1, q_K_nrm_eq_3, q_O_nrm_eq_1, q_O_nrm_eq_2, q_V_owns_eq_4, q_V_toNew_eq_2, q_C_norm_eq_4, q_C_norm_eq_5, q_C_normRow_eq_1, q_C_normRow_eq_2, q_Bool_not_false, q_Option_map_some, q_List_map_cons, q_List_map_nil, q_List_take_succ_cons, q_List_take_zero, q_List_drop_succ_cons, q_List_drop_zero, q_List_nil_append, q_List_length_cons, q_List_length_nil, q_List_getD_cons_zero, true_and, if_true, if_false, Bool.false_eq_true, and_self, BEq.rfl, List.append_nil, List.nodup_nil, Nat.reduceAdd, Nat.reduceLeDiff, Nat.reduceLT, Nat.reduceBEq, Nat.zero_add, Nat.add_zero, Int.toNat_zero, Nat.le_refl, q_learn_eq_1, q_condK_eq_1, q_condB_eq_1, q_condB_eq_2, decide_false, r_vLen_lst, norm_lst, normRows_T, normRows_Ce, List.length_map, lookT_here, lookT_next, Int.reduceLE, lookO_here, lookO_next, uf65r11, uf65b12, uf65b13, uf65r14, uf65b15, uf65b16, uf65b44, uf65r45, uf65b46, uf65b47, uf65r48, uf65b49, uf65b50, uf65b55, uf65r56, uf65b57, uf65b58]
          exact fin_cell hS (by simp only [evalN, d0]; simp)
        · have h01 := bit_of (k := 1) (g0 (.inl c3)) rfl
          simp only [] at h01
          have ww : IntKind.i64.wrap (1 - n0) = 1 - n0 := by rcases h01 with rfl | rfl <;> rfl
          simp only [c1, c3, i0, ww, cell_at q0, e0, List.length_map, q_wpLs_eq_1, q_wpLs_eq_2, q_wpL_eq_1, q_exL_eq_1, q_exL_eq_6, q_exL_eq_8, q_exL_eq_9, q_exL_eq_11, q_exL_eq_15, q_exL_eq_21, q_exL_eq_23, q_exL_eq_30, q_look_eq_1, q_look_eq_2, q_insT_eq_1, q_insO_eq_1, q_awl_eq_1, q_awl_eq_2, q_awl_eq_5, q_awl_eq_6, q_awl_eq_7, q_awl_eq_9, q_awl_eq_10, q_AE_thenL_eq_1, q_AE_thenL_eq_2, q_AE_thenL_eq_3, q_AE_inBlockL_eq_2, q_AE_inBlockL_eq_3, q_putK_eq_1, q_vBin_eq_1, q_resV_eq_1, q_binV_eq_1, q_binInt_eq_3, q_cutInt_eq_2, q_cutInt_eq_6, q_cutInt_eq_8, q_vUn_eq_1, q_unV_eq_2, q_mapC_eq_1, q_vFaddr_eq_1, q_vFaddr_eq_2, q_partV_eq_2, q_loadO_eq_1, q_loadO_eq_2, q_isV_eq_1, q_isA_eq_1, q_vLoad_eq_1, q_vLoad_eq_3, q_vIaddr_eq_2, q_idxO_eq_1, q_vBuild_eq_1, q_vBuild_eq_2, q_rowV_eq_1, q_ofRow_eq_1, q_ofRow_eq_2, q_pureRow_eq_1, q_pureRow_eq_2, q_V_cells_eq_1, q_V_cells_eq_2, q_splice_eq_1, q_isVarO_eq_1, q_isArrO_eq_1, q_stVarK_eq_1, q_storeK_eq_1, q_mapT_eq_1, q_mapT_eq_2, q_mapO_eq_1, q_mapO_eq_2, q_endK_eq_2, q_endL_eq_1, q_endV_eq_1, q_resL_eq_1, q_resL_eq_2, q_resX_eq_2, q_resCell_eq_1, q_one_eq_1, q_V_nrm_eq_1, q_V_nrm_eq_2, q_K_nrm_eq_1, q_K_nrm_eq_3, q_O_nrm_eq_1, q_O_nrm_eq_2, q_V_owns_eq_4, q_V_toNew_eq_2, q_C_norm_eq_4, q_C_norm_eq_5, q_C_normRow_eq_1, q_C_normRow_eq_2, q_Bool_not_true, q_Option_map_some, q_List_map_cons, q_List_map_nil, q_List_take_succ_cons, q_List_take_zero, q_List_drop_succ_cons, q_List_drop_zero, q_List_nil_append, q_List_cons_append, q_List_length_cons, q_List_length_nil, q_List_getD_cons_zero, q_List_getD_cons_succ, true_and, if_true, if_false, Bool.false_eq_true, and_self, BEq.rfl, List.append_nil, List.nodup_nil, Nat.reduceAdd, Nat.reduceLeDiff, Nat.reduceLT, Nat.reduceBEq, Nat.zero_add, Nat.add_zero, Int.toNat_zero, Nat.le_refl, q_learn_eq_1, q_condK_eq_1, q_condB_eq_1, q_condB_eq_2, decide_false, r_vLen_lst, norm_lst, normRows_T, normRows_Ce, List.length_map, lookT_here, lookT_next, Int.reduceLE, lookO_here, lookO_next, uf65r9, uf65b10, uf65b13, uf65r14, uf65b15, uf65b16, uf65b44, uf65r45, uf65b46, uf65b47, uf65r48, uf65b49, uf65b50, uf65b55, uf65r56, uf65b57, uf65b58]
          exact fin_cell hS (by simp only [evalN, d0]; simp)
      have q1 : 1 < cs.length := by have : 1 < arity t.op := by { unfold arity; (repeat' split) <;> omega }; omega
      have i1 : (1 : Int) < cs.length := by omega
      obtain ⟨k1, n1, e1⟩ : ∃ k n, cs[1] = Cell.mk k n := ⟨_, _, rfl⟩
      have d1 : cs.getD 1 ⟨false, 0⟩ = ⟨k1, n1⟩ := by simp [List.getD_eq_getElem?_getD, List.getElem?_eq_getElem q1, e1]
      have b1 : inN n1 := by have := hcs cs[1] (List.getElem_mem q1); rw [e1] at this; exact this
      by_cases c4 : t.op = 4
      · rw [c4] at hS
        simp only [c1, c4, i0, i1, cell_at q0, cell_at q1, e0, e1, List.length_map, q_wpLs_eq_1, q_wpLs_eq_2, q_wpLQs_eq_2, q_wpL_eq_1, q_wpLQ_eq_1, q_exL_eq_1, q_exL_eq_8, q_exL_eq_11, q_exL_eq_21, q_exL_eq_30, q_exLQ_eq_1, q_exLQ_eq_9, q_exLQ_eq_24, q_exLQ_eq_29, q_look_eq_1, q_look_eq_2, q_insT_eq_1, q_awl_eq_2, q_awl_eq_3, q_awl_eq_5, q_awl_eq_6, q_awl_eq_7, q_awl_eq_9, q_AE_thenL_eq_1, q_AE_thenL_eq_2, q_AE_inBlockL_eq_2, q_putK_eq_1, q_vBin_eq_1, q_resV_eq_1, q_binV_eq_1, q_binInt_eq_3, q_cutInt_eq_6, q_cutInt_eq_8, q_vFaddr_eq_1, q_partV_eq_1, q_loadO_eq_1, q_loadO_eq_2, q_isV_eq_1, q_isA_eq_1, q_vLoad_eq_1, q_vLoad_eq_3, q_vIaddr_eq_2, q_idxO_eq_1, q_ofRow_eq_1, q_pureRow_eq_1, q_pureRow_eq_2, q_isVarO_eq_1, q_Option_map_some, q_List_map_cons, q_List_map_nil, q_List_take_succ_cons, q_List_take_zero, q_List_drop_succ_cons, q_List_drop_zero, q_List_length_cons, q_List_length_nil, true_and, if_true, if_false, Bool.false_eq_true, and_self, BEq.rfl, Nat.reduceAdd, Nat.reduceLeDiff, Nat.reduceBEq, Nat.zero_add, Nat.add_zero, Int.toNat_zero, Nat.le_refl, q_learn_eq_1, q_condK_eq_1, q_condB_eq_1, q_condB_eq_2, decide_false, r_vLen_lst, List.length_map, lookT_here, lookT_next, Int.reduceLE, Int.reduceToNat, Int.reduceBEq, lookO_here, lookO_next, uf65r17, uf65b18, uf65b41, uf65r42, uf65b43, uf65b44, uf65r45, uf65b46, uf65b47, uf65r48, uf65b49, uf65b50, uf65b55, uf65r56, uf65b57, uf65b58]
        refine callQ_l (s80 ⟨k0, n0⟩ ⟨k1, n1⟩ 0 (.inl rfl)) ?_ (ha := by rfl)
        simp only [encCV, encCell, V.fz, q_wpLQs_eq_1, q_wpLQs_eq_2, q_wpLQ_eq_1, q_exLQ_eq_10, q_look_eq_1, q_insT_eq_1, q_insO_eq_1, q_awl_eq_10, q_AE_thenL_eq_3, q_AE_inBlockL_eq_3, q_ofRow_eq_2, q_pureRow_eq_1, q_pureRow_eq_2, q_V_cells_eq_2, q_splice_eq_1, q_stVarK_eq_1, q_storeK_eq_1, q_mapT_eq_1, q_mapT_eq_2, q_mapO_eq_1, q_mapO_eq_2, q_endK_eq_2, q_endL_eq_1, q_endV_eq_1, q_resL_eq_1, q_resL_eq_2, q_resX_eq_2, q_resCell_eq_1, q_one_eq_1, q_V_nrm_eq_1, q_V_nrm_eq_2, q_K_nrm_eq_1, q_K_nrm_eq_3, q_O_nrm_eq_1, q_O_nrm_eq_2, q_V_owns_eq_4, q_V_toNew_eq_2, q_C_norm_eq_4, q_C_norm_eq_5, q_C_normRow_eq_1, q_C_normRow_eq_2, q_V_fz_eq_2, q_Option_map_some, q_List_map_cons, q_List_map_nil, q_List_take_succ_cons, q_List_take_zero, q_List_drop_succ_cons, q_List_drop_zero, q_List_nil_append, q_List_length_cons, q_List_length_nil, true_and, if_true, and_self, List.append_nil, List.nodup_nil, Nat.reduceAdd, Nat.reduceLT, Nat.reduceBEq, Nat.zero_add, Nat.le_refl, norm_lst, normRows_T, normRows_Ce, lookT_here, lookT_next, lookO_here, lookO_next]
        exact fin_cell hS (by simp only [evalN, d0, d1]; simp)
      by_cases c5 : t.op = 5
      · rw [c5] at hS
        simp only [c1, c5, i0, i1, cell_at q0, cell_at q1, e0, e1, List.length_map, q_wpLs_eq_1, q_wpLs_eq_2, q_wpLQs_eq_2, q_wpL_eq_1, q_wpLQ_eq_1, q_exL_eq_1, q_exL_eq_8, q_exL_eq_11, q_exL_eq_21, q_exL_eq_30, q_exLQ_eq_1, q_exLQ_eq_9, q_exLQ_eq_24, q_exLQ_eq_29, q_look_eq_1, q_look_eq_2, q_insT_eq_1, q_awl_eq_2, q_awl_eq_3, q_awl_eq_5, q_awl_eq_6, q_awl_eq_7, q_awl_eq_9, q_AE_thenL_eq_1, q_AE_thenL_eq_2, q_AE_inBlockL_eq_2, q_putK_eq_1, q_vBin_eq_1, q_resV_eq_1, q_binV_eq_1, q_binInt_eq_3, q_cutInt_eq_6, q_cutInt_eq_8, q_vFaddr_eq_1, q_partV_eq_1, q_loadO_eq_1, q_loadO_eq_2, q_isV_eq_1, q_isA_eq_1, q_vLoad_eq_1, q_vLoad_eq_3, q_vIaddr_eq_2, q_idxO_eq_1, q_ofRow_eq_1, q_pureRow_eq_1, q_pureRow_eq_2, q_isVarO_eq_1, q_Option_map_some, q_List_map_cons, q_List_map_nil, q_List_take_succ_cons, q_List_take_zero, q_List_drop_succ_cons, q_List_drop_zero, q_List_length_cons, q_List_length_nil, true_and, if_true, if_false, Bool.false_eq_true, and_self, BEq.rfl, Nat.reduceAdd, Nat.reduceLeDiff, Nat.reduceBEq, Nat.zero_add, Nat.add_zero, Int.toNat_zero, Nat.le_refl, q_learn_eq_1, q_condK_eq_1, q_condB_eq_1, q_condB_eq_2, decide_false, r_vLen_lst, List.length_map, lookT_here, lookT_next, Int.reduceLE, Int.reduceToNat, Int.reduceBEq, lookO_here, lookO_next, uf65r19, uf65b20, uf65b38, uf65r39, uf65b40, uf65b41, uf65r42, uf65b43, uf65b44, uf65r45, uf65b46, uf65b47, uf65r48, uf65b49, uf65b50, uf65b55, uf65r56, uf65b57, uf65b58]
        refine callQ_l (s80 ⟨k0, n0⟩ ⟨k1, n1⟩ 1 (.inr rfl)) ?_ (ha := by rfl)
        simp only [encCV, encCell, V.fz, q_wpLQs_eq_1, q_wpLQs_eq_2, q_wpLQ_eq_1, q_exLQ_eq_10, q_look_eq_1, q_insT_eq_1, q_insO_eq_1, q_awl_eq_10, q_AE_thenL_eq_3, q_AE_inBlockL_eq_3, q_ofRow_eq_2, q_pureRow_eq_1, q_pureRow_eq_2, q_V_cells_eq_2, q_splice_eq_1, q_stVarK_eq_1, q_storeK_eq_1, q_mapT_eq_1, q_mapT_eq_2, q_mapO_eq_1, q_mapO_eq_2, q_endK_eq_2, q_endL_eq_1, q_endV_eq_1, q_resL_eq_1, q_resL_eq_2, q_resX_eq_2, q_resCell_eq_1, q_one_eq_1, q_V_nrm_eq_1, q_V_nrm_eq_2, q_K_nrm_eq_1, q_K_nrm_eq_3, q_O_nrm_eq_1, q_O_nrm_eq_2, q_V_owns_eq_4, q_V_toNew_eq_2, q_C_norm_eq_4, q_C_norm_eq_5, q_C_normRow_eq_1, q_C_normRow_eq_2, q_V_fz_eq_2, q_Option_map_some, q_List_map_cons, q_List_map_nil, q_List_take_succ_cons, q_List_take_zero, q_List_drop_succ_cons, q_List_drop_zero, q_List_nil_append, q_List_length_cons, q_List_length_nil, true_and, if_true, and_self, List.append_nil, List.nodup_nil, Nat.reduceAdd, Nat.reduceLT, Nat.reduceBEq, Nat.zero_add, Nat.le_refl, norm_lst, normRows_T, normRows_Ce, lookT_here, lookT_next, lookO_here, lookO_next]
        exact fin_cell hS (by simp only [evalN, d0, d1]; simp)
      by_cases c6 : t.op = 6
      · rw [c6] at hS gar
        have h63 : arity 6 = 3 := by decide
        have q2 : 2 < cs.length := by omega
        have i2 : (2 : Int) < cs.length := by omega
        obtain ⟨k2, n2, e2⟩ : ∃ k n, cs[2] = Cell.mk k n := ⟨_, _, rfl⟩
        have d2 : cs.getD 2 ⟨false, 0⟩ = ⟨k2, n2⟩ := by simp [List.getD_eq_getElem?_getD, List.getElem?_eq_getElem q2, e2]
        cases k0
        · cases k1
          · simp only [c1, c6, i0, i1, i2, cell_at q0, cell_at q1, cell_at q2, e0, e1, e2, List.length_map, q_wpLs_eq_1, q_wpLs_eq_2, q_wpLQs_eq_1, q_wpLQs_eq_2, q_wpL_eq_1, q_wpLQ_eq_1, q_putDL_eq_1, q_AOp_dst_eq_1, q_AOp_dst_eq_8, q_AOp_dst_eq_10, q_AOp_dst_eq_20, q_AOp_dst_eq_22, q_exL_eq_1, q_exL_eq_6, q_exL_eq_8, q_exL_eq_9, q_exL_eq_11, q_exL_eq_21, q_exL_eq_23, q_exL_eq_30, q_exLQ_eq_1, q_exLQ_eq_3, q_exLQ_eq_9, q_exLQ_eq_22, q_exLQ_eq_24, q_look_eq_1, q_look_eq_2, q_insT_eq_1, q_insO_eq_1, q_awl_eq_1, q_awl_eq_2, q_awl_eq_3, q_awl_eq_5, q_awl_eq_6, q_awl_eq_7, q_awl_eq_9, q_awl_eq_10, q_AE_thenL_eq_1, q_AE_thenL_eq_2, q_AE_thenL_eq_3, q_AE_inBlockL_eq_2, q_AE_inBlockL_eq_3, q_putK_eq_1, q_vBin_eq_1, q_resV_eq_1, q_binV_eq_1, q_binInt_eq_3, q_cutInt_eq_6, q_cutInt_eq_8, q_vFaddr_eq_1, q_vFaddr_eq_2, q_partV_eq_2, q_loadO_eq_1, q_loadO_eq_2, q_isV_eq_1, q_isA_eq_1, q_vLoad_eq_1, q_vLoad_eq_3, q_vIaddr_eq_2, q_idxO_eq_1, q_vPick_eq_3, q_vBuild_eq_1, q_rowV_eq_1, q_ofRow_eq_1, q_ofRow_eq_2, q_pureRow_eq_1, q_pureRow_eq_2, q_V_cells_eq_2, q_splice_eq_1, q_isVarO_eq_1, q_isArrO_eq_1, q_stVarK_eq_1, q_storeK_eq_1, q_mapT_eq_1, q_mapT_eq_2, q_mapO_eq_1, q_mapO_eq_2, q_endK_eq_2, q_endL_eq_1, q_endV_eq_1, q_resL_eq_1, q_resL_eq_2, q_resX_eq_2, q_resCell_eq_1, q_one_eq_1, q_V_nrm_eq_1, q_V_nrm_eq_2, q_V_nrm_eq_5, q_K_nrm_eq_1, q_K_nrm_eq_3, q_O_nrm_eq_1, q_O_nrm_eq_2, q_V_owns_eq_4, q_V_toNew_eq_2, q_C_norm_eq_4, q_C_norm_eq_5, q_C_normRow_eq_1, q_C_normRow_eq_2, q_Bool_not_true, q_Option_map_some, q_List_map_cons, q_List_map_nil, q_List_take_succ_cons, q_List_take_zero, q_List_drop_succ_cons, q_List_drop_zero, q_List_nil_append, q_List_length_cons, q_List_length_nil, q_List_getD_cons_zero, true_and, if_true, if_false, Bool.false_eq_true, and_self, BEq.rfl, List.append_nil, List.nodup_nil, Nat.reduceAdd, Nat.reduceLeDiff, Nat.reduceLT, Nat.reduceBEq, Nat.zero_add, Nat.add_zero, Int.toNat_zero, Nat.le_refl, q_learn_eq_1, q_guardP_eq_1, q_condK_eq_1, q_condB_eq_1, q_condB_eq_2, decide_false, r_vLen_lst, norm_lst, normRows_T, normRows_Ce, List.length_map, lookT_here, lookT_next, Int.reduceLE, Int.reduceToNat, Int.reduceBEq, lookO_here, lookO_next, uf65r21, uf65b22, uf65b25, uf65r26, uf65b27, uf65b28, uf65b31, uf65r32, uf65b33, uf65b34, uf65b35, uf65r36, uf65b37, uf65b38, uf65r39, uf65b40, uf65b41, uf65r42, uf65b43, uf65b44, uf65r45, uf65b46, uf65b47, uf65r48, uf65b49, uf65b50, uf65b55, uf65r56, uf65b57, uf65b58]
            exact fin_cell hS (by simp only [evalN, d0, d1, d2]; simp)
          · cases k2
            · simp only [c1, c6, i0, i1, i2, cell_at q0, cell_at q1, cell_at q2, e0, e1, e2, List.length_map, q_wpLs_eq_1, q_wpLs_eq_2, q_wpLQs_eq_1, q_wpLQs_eq_2, q_wpL_eq_1, q_wpLQ_eq_1, q_putDL_eq_1, q_AOp_dst_eq_1, q_AOp_dst_eq_8, q_AOp_dst_eq_10, q_AOp_dst_eq_20, q_AOp_dst_eq_22, q_exL_eq_1, q_exL_eq_6, q_exL_eq_8, q_exL_eq_9, q_exL_eq_11, q_exL_eq_21, q_exL_eq_23, q_exL_eq_30, q_exLQ_eq_1, q_exLQ_eq_3, q_exLQ_eq_9, q_exLQ_eq_22, q_exLQ_eq_24, q_look_eq_1, q_look_eq_2, q_insT_eq_1, q_insO_eq_1, q_awl_eq_1, q_awl_eq_2, q_awl_eq_3, q_awl_eq_5, q_awl_eq_6, q_awl_eq_7, q_awl_eq_9, q_awl_eq_10, q_AE_thenL_eq_1, q_AE_thenL_eq_2, q_AE_thenL_eq_3, q_AE_inBlockL_eq_2, q_AE_inBlockL_eq_3, q_putK_eq_1, q_vBin_eq_1, q_resV_eq_1, q_binV_eq_1, q_binInt_eq_3, q_cutInt_eq_6, q_cutInt_eq_8, q_vFaddr_eq_1, q_vFaddr_eq_2, q_partV_eq_2, q_loadO_eq_1, q_loadO_eq_2, q_isV_eq_1, q_isA_eq_1, q_vLoad_eq_1, q_vLoad_eq_3, q_vIaddr_eq_2, q_idxO_eq_1, q_vPick_eq_1, q_vPick_eq_3, q_vBuild_eq_1, q_rowV_eq_1, q_ofRow_eq_1, q_ofRow_eq_2, q_pureRow_eq_1, q_pureRow_eq_2, q_V_cells_eq_2, q_splice_eq_1, q_isVarO_eq_1, q_isArrO_eq_1, q_stVarK_eq_1, q_storeK_eq_1, q_mapT_eq_1, q_mapT_eq_2, q_mapO_eq_1, q_mapO_eq_2, q_endK_eq_2, q_endL_eq_1, q_endV_eq_1, q_resL_eq_1, q_resL_eq_2, q_resX_eq_2, q_resCell_eq_1, q_one_eq_1, q_V_nrm_eq_1, q_V_nrm_eq_2, q_V_nrm_eq_5, q_K_nrm_eq_1, q_K_nrm_eq_3, q_O_nrm_eq_1, q_O_nrm_eq_2, q_V_owns_eq_4, q_V_toNew_eq_2, q_C_norm_eq_4, q_C_norm_eq_5, q_C_normRow_eq_1, q_C_normRow_eq_2, q_Bool_not_true, q_Option_map_some, q_List_map_cons, q_List_map_nil, q_List_take_succ_cons, q_List_take_zero, q_List_drop_succ_cons, q_List_drop_zero, q_List_nil_append, q_List_length_cons, q_List_length_nil, q_List_getD_cons_zero, true_and, if_true, if_false, Bool.false_eq_true, and_self, BEq.rfl, List.append_nil, List.nodup_nil, Nat.reduceAdd, Nat.reduceLeDiff, Nat.reduceLT, Nat.reduceBEq, Nat.zero_add, Nat.add_zero, Int.toNat_zero, Nat.le_refl, q_learn_eq_1, q_guardP_eq_1, q_condK_eq_1, q_condB_eq_1, q_condB_eq_2, q_exKQ_eq_1, decide_false, r_vLen_lst, norm_lst, normRows_T, normRows_Ce, List.length_map, lookT_here, lookT_next, Int.reduceLE, Int.reduceToNat, Int.reduceBEq, lookO_here, lookO_next, uf65r21, uf65b22, uf65b25, uf65r26, uf65b27, uf65b28, uf65b31, uf65r32, uf65b33, uf65b34, uf65b35, uf65r36, uf65b37, uf65b38, uf65r39, uf65b40, uf65b41, uf65r42, uf65b43, uf65b44, uf65r45, uf65b46, uf65b47, uf65r48, uf65b49, uf65b50, uf65b55, uf65r56, uf65b57, uf65b58]
              exact fin_cell hS (by simp only [evalN, d0, d1, d2]; simp)
            · simp only [c1, c6, i0, i1, i2, cell_at q0, cell_at q1, cell_at q2, e0, e1, e2, List.length_map, q_wpLs_eq_1, q_wpLs_eq_2, q_wpLQs_eq_1, q_wpLQs_eq_2, q_wpL_eq_1, q_wpLQ_eq_1, q_AOp_dst_eq_1, q_AOp_dst_eq_8, q_AOp_dst_eq_10, q_AOp_dst_eq_20, q_AOp_dst_eq_22, q_exL_eq_1, q_exL_eq_6, q_exL_eq_8, q_exL_eq_9, q_exL_eq_11, q_exL_eq_21, q_exL_eq_23, q_exL_eq_30, q_exLQ_eq_1, q_exLQ_eq_3, q_exLQ_eq_9, q_exLQ_eq_12, q_exLQ_eq_22, q_exLQ_eq_24, q_look_eq_1, q_look_eq_2, q_insT_eq_1, q_insO_eq_1, q_awl_eq_1, q_awl_eq_2, q_awl_eq_3, q_awl_eq_5, q_awl_eq_6, q_awl_eq_7, q_awl_eq_9, q_awl_eq_10, q_AE_thenL_eq_1, q_AE_thenL_eq_2, q_AE_thenL_eq_3, q_AE_inBlockL_eq_2, q_AE_inBlockL_eq_3, q_putK_eq_1, q_vBin_eq_1, q_resV_eq_1, q_binV_eq_1, q_binInt_eq_3, q_cutInt_eq_6, q_cutInt_eq_8, q_vFaddr_eq_1, q_vFaddr_eq_2, q_partV_eq_1, q_partV_eq_2, q_loadO_eq_1, q_loadO_eq_2, q_isV_eq_1, q_isA_eq_1, q_vLoad_eq_1, q_vLoad_eq_3, q_vIaddr_eq_2, q_idxO_eq_1, q_vPick_eq_1, q_vBuild_eq_1, q_rowV_eq_1, q_ofRow_eq_1, q_ofRow_eq_2, q_pureRow_eq_1, q_pureRow_eq_2, q_V_cells_eq_2, q_splice_eq_1, q_isVarO_eq_1, q_isArrO_eq_1, q_stVarK_eq_1, q_storeK_eq_1, q_mapT_eq_1, q_mapT_eq_2, q_mapO_eq_1, q_mapO_eq_2, q_endK_eq_2, q_endL_eq_1, q_endV_eq_1, q_resL_eq_1, q_resL_eq_2, q_resX_eq_2, q_resCell_eq_1, q_one_eq_1, q_V_nrm_eq_1, q_V_nrm_eq_2, q_K_nrm_eq_1, q_K_nrm_eq_3, q_O_nrm_eq_1, q_O_nrm_eq_2, q_V_owns_eq_4, q_V_toNew_eq_2, q_C_norm_eq_4, q_C_norm_eq_5, q_C_normRow_eq_1, q_C_normRow_eq_2, q_Bool_not_true, q_Option_map_some, q_List_map_cons, q_List_map_nil, q_List_take_succ_cons, q_List_take_zero, q_List_drop_succ_cons, q_List_drop_zero, q_List_nil_append, q_List_length_cons, q_List_length_nil, q_List_getD_cons_zero, q_List_getD_cons_succ, true_and, if_true, if_false, Bool.false_eq_true, and_self, BEq.rfl, List.append_nil, List.nodup_nil, Nat.reduceAdd, Nat.reduceLeDiff, Nat.reduceLT, Nat.reduceBEq, Nat.zero_add, Nat.add_zero, Int.toNat_zero, Nat.le_refl, q_learn_eq_1, q_guardP_eq_1, q_condK_eq_1, q_condB_eq_1, q_condB_eq_2, q_exKQ_eq_1, condB_beq, decide_false, r_vLen_lst, norm_lst, normRows_T, normRows_Ce, List.length_map, lookT_here, lookT_next, Int.reduceLE, Int.reduceToNat, Int.reduceBEq, lookO_here, lookO_next, uf65r21, uf65b22, uf65r23, uf65b24, uf65b25, uf65r26, uf65b27, uf65b28, uf65b31, uf65r32, uf65b33, uf65b34, uf65b35, uf65r36, uf65b37, uf65b38, uf65r39, uf65b40, uf65b41, uf65r42, uf65b43, uf65b44, uf65r45, uf65b46, uf65b47, uf65r48, uf65b49, uf65b50, uf65b55, uf65r56, uf65b57, uf65b58]
              exact ⟨fun h => fin_cell hS (by simp only [evalN, d0, d1, d2]; simp [h]), fun h => fin_cell hS (by simp only [evalN, d0, d1, d2]; simp [h])⟩
        · have h01 := bit_of (k := 1) (g0 (.inr c6)) rfl
          simp only [] at h01
          have w0 : IntKind.i64.wrap 2 = 2 := rfl
          have w1 : IntKind.i64.wrap 1 = 1 := rfl
          rcases h01 with rfl | rfl
          · simp only [c1, c6, i0, i1, i2, w0, w1, cell_at q0, cell_at q1, cell_at q2, e0, e1, e2, List.length_map, q_wpLs_eq_1, q_wpLs_eq_2, q_wpL_eq_1, q_exL_eq_1, q_exL_eq_8, q_exL_eq_9, q_exL_eq_11, q_exL_eq_21, q_exL_eq_23, q_exL_eq_30, q_look_eq_1, q_look_eq_2, q_insT_eq_1, q_insO_eq_1, q_awl_eq_2, q_awl_eq_5, q_awl_eq_6, q_awl_eq_7, q_awl_eq_9, q_awl_eq_10, q_AE_thenL_eq_1, q_AE_thenL_eq_2, q_AE_thenL_eq_3, q_AE_inBlockL_eq_2, q_AE_inBlockL_eq_3, q_putK_eq_1, q_vBin_eq_1, q_resV_eq_1, q_binV_eq_1, q_binInt_eq_3, q_cutInt_eq_2, q_cutInt_eq_6, q_cutInt_eq_8, q_vFaddr_eq_1, q_vFaddr_eq_2, q_partV_eq_1, q_partV_eq_2, q_loadO_eq_1, q_loadO_eq_2, q_isV_eq_1, q_isA_eq_1, q_vLoad_eq_1, q_vLoad_eq_3, q_vIaddr_eq_2, q_idxO_eq_1, q_ofRow_eq_1, q_ofRow_eq_2, q_pureRow_eq_1, q_pureRow_eq_2, q_V_cells_eq_2, q_splice_eq_1, q_isVarO_eq_1, q_isArrO_eq_1, q_stVarK_eq_1, q_storeK_eq_1, q_mapT_eq_1, q_mapT_eq_2, q_mapO_eq_1, q_mapO_eq_2, q_endK_eq_2, q_endL_eq_1, q_endV_eq_1, q_resL_eq_1, q_resL_eq_2, q_resX_eq_2, q_resCell_eq_1, q_one_eq_1, q_V_nrm_eq_1, q_V_nrm_eq_2, q_K_nrm_eq_1, q_K_nrm_eq_3, q_O_nrm_eq_1, q_O_nrm_eq_2, q_V_owns_eq_4, q_V_toNew_eq_2, q_C_norm_eq_4, q_C_norm_eq_5, q_C_normRow_eq_1, q_C_normRow_eq_2, q_Option_map_some, q_List_map_cons, q_List_map_nil, q_List_take_succ_cons, q_List_take_zero, q_List_drop_succ_cons, q_List_drop_zero, q_List_nil_append, q_List_length_cons, q_List_length_nil, q_List_getD_cons_zero, q_List_getD_cons_succ, true_and, if_true, if_false, Bool.false_eq_true, and_self, BEq.rfl, List.append_nil, List.nodup_nil, Nat.reduceAdd, Nat.reduceLeDiff, Nat.reduceLT, Nat.reduceBEq, Nat.zero_add, Nat.add_zero, Int.toNat_zero, Nat.le_refl, q_learn_eq_1, q_condK_eq_1, q_condB_eq_1, q_condB_eq_2, decide_false, r_vLen_lst, norm_lst, normRows_T, normRows_Ce, List.length_map, lookT_here, lookT_next, Int.reduceLE, Int.reduceToNat, Int.reduceSub, Int.reduceBEq, lookO_here, lookO_next, uf65r29, uf65b30, uf65b31, uf65r32, uf65b33, uf65b34, uf65b35, uf65r36, uf65b37, uf65b38, uf65r39, uf65b40, uf65b41, uf65r42, uf65b43, uf65b44, uf65r45, uf65b46, uf65b47, uf65r48, uf65b49, uf65b50, uf65b55, uf65r56, uf65b57, uf65b58]
            exact fin_cell hS (by simp only [evalN, d0, d1]; simp [List.getElem?_eq_getElem q2, e2])
          · simp only [c1, c6, i0, i1, i2, w0, w1, cell_at q0, cell_at q1, cell_at q2, e0, e1, e2, List.length_map, q_wpLs_eq_1, q_wpLs_eq_2, q_wpL_eq_1, q_exL_eq_1, q_exL_eq_8, q_exL_eq_9, q_exL_eq_11, q_exL_eq_21, q_exL_eq_23, q_exL_eq_30, q_look_eq_1, q_look_eq_2, q_insT_eq_1, q_insO_eq_1, q_awl_eq_2, q_awl_eq_5, q_awl_eq_6, q_awl_eq_7, q_awl_eq_9, q_awl_eq_10, q_AE_thenL_eq_1, q_AE_thenL_eq_2, q_AE_thenL_eq_3, q_AE_inBlockL_eq_2, q_AE_inBlockL_eq_3, q_putK_eq_1, q_vBin_eq_1, q_resV_eq_1, q_binV_eq_1, q_binInt_eq_3, q_cutInt_eq_2, q_cutInt_eq_6, q_cutInt_eq_8, q_vFaddr_eq_1, q_vFaddr_eq_2, q_partV_eq_1, q_partV_eq_2, q_loadO_eq_1, q_loadO_eq_2, q_isV_eq_1, q_isA_eq_1, q_vLoad_eq_1, q_vLoad_eq_3, q_vIaddr_eq_2, q_idxO_eq_1, q_ofRow_eq_1, q_ofRow_eq_2, q_pureRow_eq_1, q_pureRow_eq_2, q_V_cells_eq_2, q_splice_eq_1, q_isVarO_eq_1, q_isArrO_eq_1, q_stVarK_eq_1, q_storeK_eq_1, q_mapT_eq_1, q_mapT_eq_2, q_mapO_eq_1, q_mapO_eq_2, q_endK_eq_2, q_endL_eq_1, q_endV_eq_1, q_resL_eq_1, q_resL_eq_2, q_resX_eq_2, q_resCell_eq_1, q_one_eq_1, q_V_nrm_eq_1, q_V_nrm_eq_2, q_K_nrm_eq_1, q_K_nrm_eq_3, q_O_nrm_eq_1, q_O_nrm_eq_2, q_V_owns_eq_4, q_V_toNew_eq_2, q_C_norm_eq_4, q_C_norm_eq_5, q_C_normRow_eq_1, q_C_normRow_eq_2, q_Option_map_some, q_List_map_cons, q_List_map_nil, q_List_take_succ_cons, q_List_take_zero, q_List_drop_succ_cons, q_List_drop_zero, q_List_nil_append, q_List_length_cons, q_List_length_nil, q_List_getD_cons_zero, q_List_getD_cons_succ, true_and, if_true, if_false, Bool.false_eq_true, and_self, BEq.rfl, List.append_nil, List.nodup_nil, Nat.reduceAdd, Nat.reduceLeDiff, Nat.reduceLT, Nat.reduceBEq, Nat.zero_add, Nat.add_zero, Int.toNat_zero, Nat.le_refl, q_learn_eq_1, q_condK_eq_1, q_condB_eq_1, q_condB_eq_2, decide_false, r_vLen_lst, norm_lst, normRows_T, normRows_Ce, List.length_map, lookT_here, lookT_next, Int.reduceLE, Int.reduceToNat, Int.reduceSub, Int.reduceBEq, lookO_here, lookO_next, uf65r29, uf65b30, uf65b31, uf65r32, uf65b33, uf65b34, uf65b35, uf65r36, uf65b37, uf65b38, uf65r39, uf65b40, uf65b41, uf65r42, uf65b43, uf65b44, uf65r45, uf65b46, uf65b47, uf65r48, uf65b49, uf65b50, uf65b55, uf65r56, uf65b57, uf65b58]
            exact fin_cell hS (by simp only [evalN, d0, d1]; simp [List.getElem?_eq_getElem q1, e1])
      have hev : evalN t.op cs = if k0 = false ∨ k1 = false then ⟨false, 0⟩ else number t.op n0 n1 := by
        simp only [evalN, d0, d1, if_neg c3, if_neg c4, if_neg c5, if_neg c6]
      rw [hev] at hS
      cases k0
      · simp only [c1, c3, c4, c5, c6, i0, i1, cell_at q0, cell_at q1, e0, e1, List.length_map, q_wpLs_eq_1, q_wpLs_eq_2, q_wpLQs_eq_2, q_wpL_eq_1, q_wpLQ_eq_1, q_putDL_eq_1, q_AOp_dst_eq_1, q_AOp_dst_eq_8, q_AOp_dst_eq_14, q_AOp_dst_eq_20, q_AOp_dst_eq_22, q_exL_eq_1, q_exL_eq_3, q_exL_eq_6, q_exL_eq_8, q_exL_eq_9, q_exL_eq_11, q_exL_eq_15, q_exL_eq_21, q_exL_eq_23, q_exL_eq_30, q_exLQ_eq_1, q_exLQ_eq_9, q_exLQ_eq_22, q_exLQ_eq_24, q_exLQ_eq_29, q_look_eq_1, q_look_eq_2, q_insT_eq_1, q_insO_eq_1, q_awl_eq_1, q_awl_eq_2, q_awl_eq_3, q_awl_eq_5, q_awl_eq_6, q_awl_eq_7, q_awl_eq_9, q_awl_eq_10, q_AE_thenL_eq_1, q_AE_thenL_eq_2, q_AE_thenL_eq_3, q_AE_inBlockL_eq_1, q_AE_inBlockL_eq_2, q_AE_inBlockL_eq_3, q_putK_eq_1, q_vBin_eq_1, q_resV_eq_1, q_binV_eq_1, q_binInt_eq_3, q_cutInt_eq_6, q_cutInt_eq_8, q_vUn_eq_1, q_unV_eq_2, q_mapC_eq_1, q_vFaddr_eq_1, q_vFaddr_eq_2, q_partV_eq_1, q_partV_eq_2, q_loadO_eq_1, q_loadO_eq_2, q_isV_eq_1, q_isA_eq_1, q_vLoad_eq_1, q_vLoad_eq_3, q_vIaddr_eq_2, q_idxO_eq_1, q_vPick_eq_2, q_vBuild_eq_1, q_rowV_eq_1, q_ofRow_eq_1, q_ofRow_eq_2, q_pureRow_eq_1, q_pureRow_eq_2, q_V_cells_eq_2, q_splice_eq_1, q_isVarO_eq_1, q_isArrO_eq_1, q_stVarK_eq_1, q_storeK_eq_1, q_mapT_eq_1, q_mapT_eq_2, q_mapO_eq_1, q_mapO_eq_2, q_endK_eq_2, q_endL_eq_1, q_endV_eq_1, q_resL_eq_1, q_resL_eq_2, q_resX_eq_2, q_resCell_eq_1, q_one_eq_1, q_V_nrm_eq_1, q_V_nrm_eq_2, q_V_nrm_eq_5, q_K_nrm_eq_1, q_K_nrm_eq_3, q_O_nrm_eq_1, q_O_nrm_eq_2, q_V_owns_eq_4, q_V_toNew_eq_2, q_C_norm_eq_4, q_C_norm_eq_5, q_C_normRow_eq_1, q_C_normRow_eq_2, q_Bool_not_true, q_Bool_not_false, q_Option_map_some, q_List_map_cons, q_List_map_nil, q_List_take_succ_cons, q_List_take_zero, q_List_drop_succ_cons, q_List_drop_zero, q_List_nil_append, q_List_length_cons, q_List_length_nil, q_List_getD_cons_zero, true_and, if_true, if_false, Bool.false_eq_true, false_implies, forall_const, and_self, List.append_nil, List.nodup_nil, Nat.reduceAdd, Nat.reduceLeDiff, Nat.reduceLT, Nat.reduceBEq, Nat.zero_add, Nat.add_zero, Int.toNat_zero, Nat.le_refl, q_learn_eq_1, not_false_eq_true, q_guardP_eq_1, q_guardP_eq_2, q_condK_eq_1, q_condB_eq_1, q_condB_eq_2, condB_beq, decide_false, r_vLen_lst, norm_lst, normRows_T, normRows_Ce, List.length_map, lookT_here, lookT_next, Int.reduceLE, Int.reduceToNat, lookO_here, lookO_next, uf65r3, uf65b4, uf65b5, uf65r6, uf65b7, uf65b8, uf65r11, uf65b12, uf65b13, uf65r14, uf65b15, uf65b16, uf65r17, uf65b18, uf65r19, uf65b20, uf65r26, uf65b27, uf65b28, uf65b31, uf65r32, uf65b33, uf65b34, uf65b35, uf65r36, uf65b37, uf65b38, uf65r39, uf65b40, uf65b41, uf65r42, uf65b43, uf65b44, uf65r45, uf65b46, uf65b47, uf65r48, uf65b49, uf65b50, uf65b55, uf65r56, uf65b57, uf65b58]
        exact fin_cell hS (by simp)
      cases k1
      · simp only [c1, c3, c4, c5, c6, i0, i1, cell_at q0, cell_at q1, e0, e1, List.length_map, q_wpLs_eq_1, q_wpLs_eq_2, q_wpLQs_eq_2, q_wpL_eq_1, q_wpLQ_eq_1, q_AOp_dst_eq_1, q_AOp_dst_eq_8, q_AOp_dst_eq_14, q_AOp_dst_eq_20, q_AOp_dst_eq_22, q_exL_eq_1, q_exL_eq_3, q_exL_eq_6, q_exL_eq_8, q_exL_eq_9, q_exL_eq_11, q_exL_eq_15, q_exL_eq_21, q_exL_eq_23, q_exL_eq_30, q_exLQ_eq_1, q_exLQ_eq_9, q_exLQ_eq_24, q_exLQ_eq_29, q_look_eq_1, q_look_eq_2, q_insT_eq_1, q_insO_eq_1, q_awl_eq_1, q_awl_eq_2, q_awl_eq_3, q_awl_eq_5, q_awl_eq_6, q_awl_eq_7, q_awl_eq_9, q_awl_eq_10, q_AE_thenL_eq_1, q_AE_thenL_eq_2, q_AE_thenL_eq_3, q_AE_inBlockL_eq_1, q_AE_inBlockL_eq_2, q_AE_inBlockL_eq_3, q_putK_eq_1, q_vBin_eq_1, q_resV_eq_1, q_binV_eq_1, q_binInt_eq_3, q_cutInt_eq_2, q_cutInt_eq_6, q_cutInt_eq_8, q_vUn_eq_1, q_unV_eq_2, q_mapC_eq_1, q_vFaddr_eq_1, q_vFaddr_eq_2, q_partV_eq_1, q_partV_eq_2, q_loadO_eq_1, q_loadO_eq_2, q_isV_eq_1, q_isA_eq_1, q_vLoad_eq_1, q_vLoad_eq_3, q_vIaddr_eq_2, q_idxO_eq_1, q_vPick_eq_1, q_vBuild_eq_1, q_vBuild_eq_2, q_rowV_eq_1, q_ofRow_eq_1, q_ofRow_eq_2, q_pureRow_eq_1, q_pureRow_eq_2, q_V_cells_eq_1, q_V_cells_eq_2, q_splice_eq_1, q_isVarO_eq_1, q_isArrO_eq_1, q_stVarK_eq_1, q_storeK_eq_1, q_mapT_eq_1, q_mapT_eq_2, q_mapO_eq_1, q_mapO_eq_2, q_endK_eq_2, q_endL_eq_1, q_endV_eq_1, q_resL_eq_1, q_resL_eq_2, q_resX_eq_2, q_resCell_eq_1, q_one_eq_1, q_V_nrm_eq_1, q_V_nrm_eq_2, q_K_nrm_eq_1, q_K_nrm_eq_3, q_O_nrm_eq_1, q_O_nrm_eq_2, q_V_owns_eq_4, q_V_toNew_eq_2, q_C_norm_eq_4, q_C_norm_eq_5, q_C_normRow_eq_1, q_C_normRow_eq_2, q_Bool_not_true, q_Bool_not_false, q_Option_map_some, q_List_map_cons, q_List_map_nil, q_List_take_succ_cons, q_List_take_zero, q_List_drop_succ_cons, q_List_drop_zero, q_List_nil_append, q_List_cons_append, q_List_length_cons, q_List_length_nil, q_List_getD_cons_zero, q_List_getD_cons_succ, true_and, and_true, if_true, if_false, Bool.false_eq_true, false_implies, forall_const, and_self, List.append_nil, List.nodup_nil, Nat.reduceAdd, Nat.reduceLeDiff, Nat.reduceLT, Nat.reduceBEq, Nat.zero_add, Nat.add_zero, Int.toNat_zero, Nat.le_refl, q_learn_eq_1, not_false_eq_true, q_guardP_eq_2, q_condK_eq_1, q_condB_eq_1, q_condB_eq_2, q_exK_eq_1, condB_beq, decide_false, r_vLen_lst, norm_lst, normRows_T, normRows_Ce, List.length_map, lookT_here, lookT_next, Int.reduceLE, Int.reduceToNat, lookO_here, lookO_next, uf65r3, uf65b4, uf65b5, uf65r6, uf65b7, uf65b8, uf65r9, uf65b10, uf65b13, uf65r14, uf65b15, uf65b16, uf65r17, uf65b18, uf65r19, uf65b20, uf65r29, uf65b30, uf65b31, uf65r32, uf65b33, uf65b34, uf65b35, uf65r36, uf65b37, uf65b38, uf65r39, uf65b40, uf65b41, uf65r42, uf65b43, uf65b44, uf65r45, uf65b46, uf65b47, uf65r48, uf65b49, uf65b50, uf65b55, uf65r56, uf65b57, uf65b58]
        exact fin_cell hS (by simp)
      rw [if_neg (by simp)] at hS
      simp only [c1, c3, c4, c5, c6, i0, i1, cell_at q0, cell_at q1, e0, e1, List.length_map, q_wpLs_eq_1, q_wpLs_eq_2, q_wpLQs_eq_2, q_wpL_eq_1, q_wpLQ_eq_1, q_AOp_dst_eq_1, q_AOp_dst_eq_8, q_AOp_dst_eq_14, q_AOp_dst_eq_20, q_AOp_dst_eq_22, q_exL_eq_1, q_exL_eq_3, q_exL_eq_6, q_exL_eq_8, q_exL_eq_9, q_exL_eq_11, q_exL_eq_15, q_exL_eq_21, q_exL_eq_23, q_exL_eq_30, q_exLQ_eq_1, q_exLQ_eq_9, q_exLQ_eq_22, q_exLQ_eq_24, q_exLQ_eq_29, q_look_eq_1, q_look_eq_2, q_insT_eq_1, q_insO_eq_1, q_awl_eq_1, q_awl_eq_2, q_awl_eq_3, q_awl_eq_5, q_awl_eq_6, q_awl_eq_7, q_awl_eq_9, q_awl_eq_10, q_AE_thenL_eq_1, q_AE_thenL_eq_2, q_AE_thenL_eq_3, q_AE_inBlockL_eq_1, q_AE_inBlockL_eq_2, q_AE_inBlockL_eq_3, q_putK_eq_1, q_vBin_eq_1, q_resV_eq_1, q_binV_eq_1, q_binInt_eq_3, q_cutInt_eq_2, q_cutInt_eq_6, q_cutInt_eq_8, q_vUn_eq_1, q_unV_eq_2, q_mapC_eq_1, q_vFaddr_eq_1, q_vFaddr_eq_2, q_partV_eq_1, q_partV_eq_2, q_loadO_eq_1, q_loadO_eq_2, q_isV_eq_1, q_isA_eq_1, q_vLoad_eq_1, q_vLoad_eq_3, q_vIaddr_eq_2, q_idxO_eq_1, q_vPick_eq_1, q_vBuild_eq_1, q_vBuild_eq_2, q_rowV_eq_1, q_ofRow_eq_1, q_ofRow_eq_2, q_pureRow_eq_1, q_pureRow_eq_2, q_V_cells_eq_1, q_V_cells_eq_2, q_splice_eq_1, q_isVarO_eq_1, q_isArrO_eq_1, q_stVarK_eq_1, q_storeK_eq_1, q_mapT_eq_1, q_mapT_eq_2, q_mapO_eq_1, q_mapO_eq_2, q_endK_eq_2, q_endL_eq_1, q_endV_eq_1, q_resL_eq_1, q_resL_eq_2, q_resX_eq_2, q_resCell_eq_1, q_one_eq_1, q_V_nrm_eq_1, q_V_nrm_eq_2, q_K_nrm_eq_1, q_K_nrm_eq_3, q_O_nrm_eq_1, q_O_nrm_eq_2, q_V_owns_eq_4, q_V_toNew_eq_2, q_C_norm_eq_4, q_C_norm_eq_5, q_C_normRow_eq_1, q_C_normRow_eq_2, q_Bool_not_true, q_Bool_not_false, q_Option_map_some, q_List_map_cons, q_List_map_nil, q_List_take_succ_cons, q_List_take_zero, q_List_drop_succ_cons, q_List_drop_zero, q_List_nil_append, q_List_cons_append, q_List_length_cons, q_List_length_nil, q_List_getD_cons_zero, q_List_getD_cons_succ, true_and, and_true, if_true, if_false, Bool.false_eq_true, false_implies, forall_const, and_self, List.append_nil, List.nodup_nil, Nat.reduceAdd, Nat.reduceLeDiff, Nat.reduceLT, Nat.reduceBEq, Nat.zero_add, Nat.add_zero, Int.toNat_zero, Nat.le_refl, q_learn_eq_1, not_false_eq_true, q_guardP_eq_2, q_condK_eq_1, q_condB_eq_1, q_condB_eq_2, q_exK_eq_1, condB_beq, decide_false, r_vLen_lst, norm_lst, normRows_T, normRows_Ce, List.length_map, lookT_here, lookT_next, Int.reduceLE, Int.reduceToNat, lookO_here, lookO_next, uf65r1, uf65b2, uf65b5, uf65r6, uf65b7, uf65b8, uf65r9, uf65b10, uf65b13, uf65r14, uf65b15, uf65b16, uf65r17, uf65b18, uf65r19, uf65b20, uf65r29, uf65b30, uf65b31, uf65r32, uf65b33, uf65b34, uf65b35, uf65r36, uf65b37, uf65b38, uf65r39, uf65b40, uf65b41, uf65r42, uf65b43, uf65b44, uf65r45, uf65b46, uf65b47, uf65r48, uf65b49, uf65b50, uf65b55, uf65r56, uf65b57, uf65b58]
      refine callQ_l (s81 t.op n0 n1 b0 b1) ?_
      simp only [encCV, encCell, V.fz, q_wpLQs_eq_1, q_wpLQs_eq_2, q_wpLQ_eq_1, q_exLQ_eq_10, q_look_eq_1, q_insT_eq_1, q_insO_eq_1, q_awl_eq_10, q_ofRow_eq_2, q_pureRow_eq_1, q_pureRow_eq_2, q_V_cells_eq_2, q_splice_eq_1, q_stVarK_eq_1, q_storeK_eq_1, q_mapT_eq_1, q_mapT_eq_2, q_mapO_eq_1, q_mapO_eq_2, q_endK_eq_2, q_endL_eq_1, q_endV_eq_1, q_resL_eq_1, q_resL_eq_2, q_resX_eq_2, q_resCell_eq_1, q_one_eq_1, q_V_nrm_eq_1, q_V_nrm_eq_2, q_K_nrm_eq_1, q_K_nrm_eq_3, q_O_nrm_eq_1, q_O_nrm_eq_2, q_V_owns_eq_4, q_V_toNew_eq_2, q_C_norm_eq_4, q_C_norm_eq_5, q_C_normRow_eq_1, q_C_normRow_eq_2, q_V_fz_eq_2, q_Option_map_some, q_List_map_cons, q_List_map_nil, q_List_take_succ_cons, q_List_take_zero, q_List_drop_succ_cons, q_List_drop_zero, q_List_nil_append, q_List_length_cons, q_List_length_nil, true_and, if_true, and_self, List.append_nil, List.nodup_nil, Nat.reduceAdd, Nat.reduceLT, Nat.reduceBEq, Nat.zero_add, Nat.le_refl, norm_lst, normRows_T, normRows_Ce, lookT_here, lookT_next, lookO_here, lookO_next]
      exact fin_cell hS rfl
  exact Term.ind fun o n a ih => main _ ih
theorem s38 (t : Term) (cells : List Cell) : Spec Try.prog 38 [.agg (encT t), lst 2 (cells.map encCell)] (fun r => r = encCV (evalT t cells)) := by
  refine Spec.of_awlS hf38 okf38 (by simp) fun S hS => ?_
  simp only [encT_eq, q_wpLs_eq_1, q_wpLs_eq_2, q_wpL_eq_1, q_exL_eq_4, q_exL_eq_5, q_exL_eq_8, q_exL_eq_28, q_look_eq_1, q_insT_eq_1, q_insO_eq_1, q_awl_eq_2, q_awl_eq_5, q_AE_thenL_eq_1, q_initT_eq_1, q_initT_eq_2, q_putK_eq_1, q_loadO_eq_1, q_isV_eq_1, q_vLoad_eq_1, q_ofRow_eq_2, q_pureRow_eq_1, q_pureRow_eq_2, q_boxK_eq_1, q_freeB_eq_1, q_freeT_eq_1, q_freeT_eq_2, q_freeO_eq_1, q_freeO_eq_2, q_V_noRef_eq_1, q_V_noRef_eq_2, q_K_noRef_eq_1, q_K_noRef_eq_3, q_O_noRef_eq_1, q_Option_map_some, q_List_map_cons, q_List_map_nil, q_List_take_succ_cons, q_List_take_zero, q_List_drop_zero, q_List_length_cons, q_List_length_nil, q_List_all_cons, q_List_all_nil, true_and, if_true, bne_iff_ne, ne_eq, Bool.and_true, Bool.or_true, Bool.false_or, Nat.reduceAdd, Nat.reduceEqDiff, Nat.reduceBEq, Nat.zero_add, Nat.le_refl, not_false_eq_true, lookT_here, lookT_next, lookO_here, lookO_next, uf38, uf38r9, uf38b10, uf38r11, uf38b12]
  refine call_s (s32 t) ?_
  by_cases h : (checkT t).2 = 0
  · obtain ⟨hc, he, hsz⟩ := sz_of_check h
    rw [evalT, if_neg (by simp [h])] at hS
    simp only [pairV, h, q_wpLs_eq_1, q_wpLs_eq_2, q_wpL_eq_1, q_exL_eq_1, q_exL_eq_8, q_exL_eq_11, q_exL_eq_27, q_exL_eq_28, q_look_eq_1, q_look_eq_2, q_insT_eq_1, q_awl_eq_1, q_awl_eq_2, q_awl_eq_5, q_awl_eq_6, q_AE_thenL_eq_1, q_putK_eq_1, q_vBin_eq_1, q_resV_eq_1, q_binV_eq_1, q_binInt_eq_3, q_cutInt_eq_7, q_vExtr_eq_1, q_loadO_eq_1, q_isV_eq_1, q_vLoad_eq_1, q_ofRow_eq_2, q_pureRow_eq_1, q_pureRow_eq_2, q_Option_map_some, q_List_map_cons, q_List_map_nil, q_List_take_succ_cons, q_List_take_zero, q_List_drop_zero, q_List_length_cons, q_List_length_nil, q_List_getElemQ_cons_zero, q_List_getElemQ_cons_succ, true_and, if_true, Nat.reduceAdd, Nat.reduceBEq, Nat.zero_add, Nat.le_refl, q_learn_eq_1, q_condK_eq_1, q_condB_eq_2, lookT_here, lookT_next, Int.reduceBNe, lookO_here, lookO_next, uf38r1, uf38b2, uf38b5, uf38r6, uf38b7, uf38b8]
    refine call_r (s65 t _ (wt_of t hc) cells) ?_
    simp only [encCV, encCell, q_wpLs_eq_1, q_wpLs_eq_2, q_wpL_eq_1, q_exL_eq_9, q_look_eq_1, q_insT_eq_1, q_insO_eq_1, q_awl_eq_10, q_ofRow_eq_2, q_pureRow_eq_1, q_pureRow_eq_2, q_V_cells_eq_2, q_splice_eq_1, q_stVarK_eq_1, q_storeK_eq_1, q_mapT_eq_1, q_mapT_eq_2, q_mapO_eq_1, q_mapO_eq_2, q_endK_eq_2, q_endL_eq_1, q_endV_eq_1, q_resL_eq_1, q_resL_eq_2, q_resX_eq_2, q_resCell_eq_1, q_one_eq_1, q_V_nrm_eq_1, q_V_nrm_eq_2, q_V_nrm_eq_4, q_K_nrm_eq_1, q_K_nrm_eq_3, q_V_nrmL_eq_1, q_V_nrmL_eq_2, q_O_nrm_eq_1, q_V_owns_eq_4, q_V_toNew_eq_2, q_C_norm_eq_4, q_C_norm_eq_5, q_C_normRow_eq_1, q_C_normRow_eq_2, q_regN_eq_2, q_V_reg_eq_4, q_freesL_eq_1, q_addsL_eq_1, q_regK_eq_1, q_retK_eq_2, q_Option_map_some, q_List_map_cons, q_List_map_nil, q_List_take_succ_cons, q_List_take_zero, q_List_drop_succ_cons, q_List_drop_zero, q_List_nil_append, q_List_length_cons, q_List_length_nil, true_and, if_true, and_self, List.append_nil, List.nodup_nil, Nat.reduceAdd, Nat.reduceMul, Nat.reduceLT, Nat.reduceBEq, Nat.zero_add, Nat.le_refl, norm_lst, normRows_T, normRows_Ce, lookT_here, lookT_next, lookO_here]
    exact fin_cell hS rfl
  · rw [evalT, if_pos h] at hS
    simp only [pairV, h, q_wpLs_eq_1, q_wpLs_eq_2, q_wpL_eq_1, q_exL_eq_1, q_exL_eq_6, q_exL_eq_8, q_exL_eq_9, q_exL_eq_11, q_exL_eq_27, q_exL_eq_28, q_look_eq_1, q_look_eq_2, q_insT_eq_1, q_insO_eq_1, q_awl_eq_1, q_awl_eq_2, q_awl_eq_5, q_awl_eq_6, q_awl_eq_10, q_AE_thenL_eq_1, q_AE_thenL_eq_3, q_putK_eq_1, q_vBin_eq_1, q_resV_eq_1, q_binV_eq_1, q_binInt_eq_3, q_cutInt_eq_7, q_vExtr_eq_1, q_loadO_eq_1, q_isV_eq_1, q_vLoad_eq_1, q_vBuild_eq_1, q_rowV_eq_1, q_ofRow_eq_2, q_pureRow_eq_1, q_pureRow_eq_2, q_V_cells_eq_2, q_splice_eq_1, q_stVarK_eq_1, q_storeK_eq_1, q_mapT_eq_1, q_mapT_eq_2, q_mapO_eq_1, q_mapO_eq_2, q_endK_eq_2, q_endL_eq_1, q_endV_eq_1, q_resL_eq_1, q_resL_eq_2, q_resX_eq_2, q_resCell_eq_1, q_one_eq_1, q_V_nrm_eq_1, q_V_nrm_eq_2, q_V_nrm_eq_4, q_K_nrm_eq_1, q_K_nrm_eq_3, q_V_nrmL_eq_1, q_V_nrmL_eq_2, q_O_nrm_eq_1, q_V_owns_eq_4, q_V_toNew_eq_2, q_C_norm_eq_4, q_C_norm_eq_5, q_C_normRow_eq_1, q_C_normRow_eq_2, q_Option_map_some, q_List_map_cons, q_List_map_nil, q_List_take_succ_cons, q_List_take_zero, q_List_drop_succ_cons, q_List_drop_zero, q_List_nil_append, q_List_length_cons, q_List_length_nil, q_List_getElemQ_cons_zero, q_List_getElemQ_cons_succ, true_and, and_true, if_true, false_implies, forall_const, and_self, List.append_nil, List.nodup_nil, Nat.reduceAdd, Nat.reduceLT, Nat.reduceBEq, Nat.zero_add, Nat.le_refl, q_learn_eq_1, not_false_eq_true, q_condK_eq_1, condB_bne, norm_lst, normRows_T, normRows_Ce, lookT_here, lookT_next, lookO_here, lookO_next, uf38r1, uf38b2, uf38r3, uf38b4, uf38b5, uf38r6, uf38b7, uf38b8]
    exact fin_cell hS rfl
end Go.Abs


namespace Go.Abs
theorem asc_ext : ∀ (l m : List Int), l.Pairwise (· < ·) → m.Pairwise (· < ·) → (∀ x, x ∈ l ↔ x ∈ m) → l = m
  | [], [], _, _, _ => rfl
  | [], b :: m, _, _, h => by have := (h b).2 (by simp); simp at this
  | a :: l, [], _, _, h => by have := (h a).1 (by simp); simp at this
  | a :: l, b :: m, hl, hm, h => by
    rw [List.pairwise_cons] at hl hm
    have hab : a = b := by
      have h1 := (h a).1 (by simp)
      have h2 := (h b).2 (by simp)
      rcases List.mem_cons.1 h1 with h1 | h1
      · exact h1
      · rcases List.mem_cons.1 h2 with h2 | h2
        · exact h2.symm
        · have := hl.1 b h2; have := hm.1 a h1; omega
    subst hab
    rw [asc_ext l m hl.2 hm.2 (fun x => ?_)]
    have hx := h x
    simp only [List.mem_cons] at hx
    constructor
    · intro hxl
      rcases hx.1 (.inr hxl) with rfl | hxm
      · have := hl.1 x hxl; omega
      · exact hxm
    · intro hxm
      rcases hx.2 (.inr hxm) with rfl | hxl
      · have := hm.1 x hxm; omega
      · exact hxl
theorem upto_asc (n : Nat) : (upto n).Pairwise (· < ·) := by
  unfold upto
  rw [List.pairwise_map]
  exact List.pairwise_lt_range.imp (fun h => by omega)
theorem mem_upto (n : Nat) (x : Int) : x ∈ upto n ↔ 0 ≤ x ∧ x < n := by
  simp only [upto, List.mem_map, List.mem_range]
  constructor
  · rintro ⟨a, h, rfl⟩; omega
  · rintro ⟨h1, h2⟩; exact ⟨x.toNat, by omega, by omega⟩
theorem sortI_asc (l : List Int) : (sortI l).Pairwise (· ≤ ·) := by
  have := List.pairwise_mergeSort (le := fun x y : Int => decide (x ≤ y)) (fun a b c h1 h2 => by simp at *; omega) (fun a b => by simp; omega) l
  exact this.imp (fun h => by simpa using h)
theorem mem_sortI (l : List Int) (x : Int) : x ∈ sortI l ↔ x ∈ l := List.mem_mergeSort
theorem compact_asc (l : List Int) (hs : l.Pairwise (· ≤ ·)) : (Lib.compact l).Pairwise (· < ·) ∧ ∀ x, x ∈ Lib.compact l ↔ x ∈ l := by
  have hget : ∀ i j, i ≤ j → j < l.length → l.toArray[i]! ≤ l.toArray[j]! := by
    intro i j hij hj
    rw [getElem!_pos l.toArray i (by simp; omega), getElem!_pos l.toArray j (by simpa using hj)]
    simp only [List.getElem_toArray]
    rcases Nat.eq_or_lt_of_le hij with h | h
    · subst h; omega
    · exact List.pairwise_iff_getElem.1 hs i j (by omega) hj h
  have key : ∀ m, m ≤ l.length → (Lib.compactUpTo l.toArray m).Pairwise (· < ·) ∧ ∀ x, x ∈ Lib.compactUpTo l.toArray m ↔ ∃ j, j < m ∧ l.toArray[j]! = x := by
    intro m
    induction m with
    | zero => intro _; simp [Lib.compactUpTo]
    | succ m ih =>
      intro hm
      obtain ⟨h1, h2⟩ := ih (by omega)
      have hsucc : Lib.compactUpTo l.toArray (m + 1) = Lib.compactUpTo l.toArray m ++ (if Lib.keeps l.toArray m = true then [l.toArray[m]!] else []) := by
        unfold Lib.compactUpTo
        rw [List.range_succ, List.filter_append, List.map_append]
        congr 1
        by_cases hk : Lib.keeps l.toArray m = true <;> simp [hk]
      rw [hsucc]
      by_cases hk : Lib.keeps l.toArray m = true
      · rw [if_pos hk]
        refine ⟨?_, fun x => ?_⟩
        · rw [List.pairwise_append]
          refine ⟨h1, by simp, fun a ha b hb => ?_⟩
          have hb := List.mem_singleton.1 hb
          subst hb
          obtain ⟨j, hj, rfl⟩ := (h2 a).1 ha
          have hle := hget j m (by omega) (by omega)
          have hk' : m = 0 ∨ l.toArray[m]! ≠ l.toArray[m - 1]! := by simpa [Lib.keeps] using hk
          rcases hk' with h0 | hne
          · omega
          · have ha := hget j (m - 1) (by omega) (by omega)
            have hb := hget (m - 1) m (by omega) (by omega)
            omega
        · rw [List.mem_append, h2]
          simp only [List.mem_singleton]
          constructor
          · rintro (⟨j, hj, rfl⟩ | rfl)
            · exact ⟨j, by omega, rfl⟩
            · exact ⟨m, by omega, rfl⟩
          · rintro ⟨j, hj, rfl⟩
            rcases Nat.lt_or_ge j m with h | h
            · exact .inl ⟨j, h, rfl⟩
            · have : j = m := by omega
              subst this; exact .inr rfl
      · rw [if_neg hk]
        simp only [List.append_nil]
        refine ⟨h1, fun x => ?_⟩
        rw [h2]
        have hk' : ¬ (m = 0 ∨ l.toArray[m]! ≠ l.toArray[m - 1]!) := by simpa [Lib.keeps] using hk
        have hm0 : m ≠ 0 := fun h => hk' (.inl h)
        have heq : l.toArray[m]! = l.toArray[m - 1]! := by
          by_cases h : l.toArray[m]! = l.toArray[m - 1]!
          · exact h
          · exact absurd (.inr h) hk'
        constructor
        · rintro ⟨j, hj, rfl⟩; exact ⟨j, by omega, rfl⟩
        · rintro ⟨j, hj, rfl⟩
          rcases Nat.lt_or_ge j m with h | h
          · exact ⟨j, h, rfl⟩
          · have : j = m := by omega
            subst this; exact ⟨j - 1, by omega, heq.symm⟩
  obtain ⟨h1, h2⟩ := key l.length (Nat.le_refl _)
  refine ⟨h1, fun x => ?_⟩
  show x ∈ Lib.compactUpTo l.toArray l.length ↔ _
  rw [h2, List.mem_iff_getElem]
  constructor
  · rintro ⟨j, hj, rfl⟩
    exact ⟨j, hj, by rw [getElem!_pos l.toArray j (by simpa using hj)]; simp⟩
  · rintro ⟨j, hj, rfl⟩
    exact ⟨j, hj, by rw [getElem!_pos l.toArray j (by simpa using hj)]; simp⟩
theorem cs_eq {l : List Int} {n : Nat} {p : Int → Bool} (h : ∀ x, x ∈ l ↔ (0 ≤ x ∧ x < n) ∧ p x = true) : Lib.compact (sortI l) = (upto n).filter p := by
  obtain ⟨h1, h2⟩ := compact_asc (sortI l) (sortI_asc l)
  refine asc_ext _ _ h1 ((upto_asc n).filter _) fun x => ?_
  rw [h2, mem_sortI, h, List.mem_filter, mem_upto]
theorem chk_var {t : Term} (h : (chk t).2 = 0) (h2 : t.op = 2) : t.args = [] ∧ 0 ≤ t.n ∧ t.n < 20 := by
  obtain ⟨_, h1⟩ := chk_ok h
  rw [h1] at h
  have a1 : ¬ (t.op < 0 ∨ t.op > 13) := by omega
  have a2 : t.op = 0 ∨ t.op = 1 ∨ t.op = 2 := by omega
  simp only [node, if_neg a1, if_pos a2, leaf] at h
  split at h
  · simp at h
  · rename_i hl
    rw [if_neg (by omega), if_neg (by omega)] at h
    refine ⟨List.eq_nil_of_length_eq_zero (by omega), ?_⟩
    cases hv : varType t.n with
    | none => rw [hv] at h; simp at h
    | some k => unfold varType at hv; split at hv
                · simp at hv
                · omega
theorem mem_coll : ∀ (t : Term), (chk t).2 = 0 → ∀ (acc : List Int) (v : Int), v ∈ coll t acc ↔ v ∈ acc ∨ used t v = true := by
  refine Term.ind fun o n a ih h acc v => ?_
  have hk := (chk_ok h).1
  rw [coll_eq, used_eq]
  by_cases h2 : o = 2
  · obtain ⟨h3, _⟩ := chk_var h h2
    have h3 : a = [] := h3
    subst h3
    show v ∈ collL [] (if o = 2 then acc ++ [n] else acc) ↔ v ∈ acc ∨ (if o = 2 then decide (n = v) else usedL [] v) = true
    rw [if_pos h2, if_pos h2]
    simp [collL, eq_comm]
  · show v ∈ collL a (if o = 2 then acc ++ [n] else acc) ↔ v ∈ acc ∨ (if o = 2 then decide (n = v) else usedL a v) = true
    rw [if_neg h2, if_neg h2]
    have key : ∀ (l : List Term), (∀ x ∈ l, x ∈ a) → ∀ acc, v ∈ collL l acc ↔ v ∈ acc ∨ usedL l v = true := by
      intro l
      induction l with
      | nil => intro _ acc; simp [collL, usedL]
      | cons b l ihl =>
        intro hm acc
        have hb := hm b (by simp)
        rw [collL, ihl (fun x hx => hm x (by simp [hx])), ih b hb (hk b hb), usedL]
        cases used b v <;> simp
    exact key a (fun x hx => hx) acc
theorem used_range : ∀ (t : Term), (chk t).2 = 0 → ∀ v, used t v = true → 0 ≤ v ∧ v < 20 := by
  refine Term.ind fun o n a ih h v hu => ?_
  have hk := (chk_ok h).1
  rw [used_eq] at hu
  by_cases h2 : o = 2
  · obtain ⟨_, h4⟩ := chk_var h h2
    have hu : decide (n = v) = true := by
      have e : (if o = 2 then decide (n = v) else usedL a v) = true := hu
      rwa [if_pos h2] at e
    have hu : n = v := of_decide_eq_true hu
    subst hu; exact h4
  · have hu : usedL a v = true := by
      have e : (if o = 2 then decide (n = v) else usedL a v) = true := hu
      rwa [if_neg h2] at e
    have key : ∀ (l : List Term), (∀ x ∈ l, x ∈ a) → usedL l v = true → 0 ≤ v ∧ v < 20 := by
      intro l
      induction l with
      | nil => intro _ h; simp [usedL] at h
      | cons b l ihl =>
        intro hm h
        have hb := hm b (by simp)
        rw [usedL] at h
        cases hc : used b v
        · rw [hc] at h; exact ihl (fun x hx => hm x (by simp [hx])) (by simpa using h)
        · exact ih b hb (hk b hb) v hc
    exact key a (fun x hx => hx) hu
theorem checkT_ok {t : Term} (h : (checkT t).2 = 0) : checkT t = chk t ∧ 0 ≤ nodes t 60 8 := by
  unfold checkT at h ⊢
  split at h
  · simp at h
  · rename_i hn; rw [if_neg hn]; exact ⟨rfl, by omega⟩
theorem vars_eq (t : Term) : (if (checkT t).2 ≠ 0 then [] else Lib.compact (sortI (coll t []))) = varsT t := by
  unfold varsT
  split
  · rfl
  · rename_i h
    have h : (checkT t).2 = 0 := by simpa using h
    have hc := (checkT_ok h).1
    rw [hc] at h
    refine cs_eq fun x => ?_
    rw [mem_coll t h]
    constructor
    · rintro (hx | hx)
      · simp at hx
      · exact ⟨used_range t h x hx, hx⟩
    · rintro ⟨_, hx⟩; exact .inr hx
def plain (q : Int) : Bool := decide (q = 0 ∨ q = 6 ∨ q = 7)
theorem mem_hasI (l : List Int) (v : Int) : hasI l v = true ↔ v ∈ l := by
  simp only [hasI, List.any_eq_true, decide_eq_true_eq]
  constructor
  · rintro ⟨x, h, rfl⟩; exact h
  · intro h; exact ⟨v, h, rfl⟩
end Go.Abs


set_option maxRecDepth 100000
set_option maxHeartbeats 4000000
namespace Go.Abs
open Go.Proofs
def k1 (i q : Nat) : Int := if q < i then 1 else 0
def k2 (j q : Nat) : Int := if q ∈ [6, 7, 10, 12, 13, 14, 15, 16, 20, 21].take j then 0 else 1
end Go.Abs


set_option maxRecDepth 100000
set_option maxHeartbeats 4000000
namespace Go.Abs
open Go.Proofs
theorem upto_succ (i : Nat) : upto (i + 1) = upto i ++ [(i : Int)] := by simp [upto, List.range_succ]
theorem upto_filter (p : Int → Bool) (i : Nat) : (upto (i + 1)).filter p = if p i = true then (upto i).filter p ++ [(i : Int)] else (upto i).filter p := by
  rw [upto_succ, List.filter_append]
  by_cases h : p i = true <;> simp [h]
theorem filter_le (p : Int → Bool) (i : Nat) : ((upto i).filter p).length ≤ i := Nat.le_trans (List.length_filter_le _ _) (by simp [upto])
end Go.Abs


set_option maxRecDepth 100000
set_option maxHeartbeats 4000000
namespace Go.Abs
open Go.Proofs
theorem hasI_flat {l : List (List Int)} {i : Nat} (h : i < l.length) (v : Int) : hasI (l.take (i + 1)).flatten v = (hasI (l.take i).flatten v || hasI l[i] v) := by
  rw [flat_take h]; simp [hasI]
theorem s66 : ∀ (t : Term) (k : Int), WT t k → ∀ (cells : List Cell) (v : Int), Spec Try.prog 66 [.agg (encT t), lst 2 (cells.map encCell), .int .i64 v] (fun r => r = .bool (hasI (runN t cells) v)) := by
  have main : ∀ t : Term, (∀ x ∈ t.args, ∀ (k : Int), WT x k → ∀ (cells : List Cell) (v : Int), Spec Try.prog 66 [.agg (encT x), lst 2 (cells.map encCell), .int .i64 v] (fun r => r = .bool (hasI (runN x cells) v))) →
      ∀ (k : Int), WT t k → ∀ (cells : List Cell) (v : Int), Spec Try.prog 66 [.agg (encT t), lst 2 (cells.map encCell), .int .i64 v] (fun r => r = .bool (hasI (runN t cells) v)) := by
    intro t ih k hw cells v
    obtain ⟨w1, w2⟩ := wt_low hw
    refine Spec.of_awlS hf66 okf66 (by simp) fun S hS => ?_
    simp only [encT_eq, q_wpLs_eq_1, q_wpLs_eq_2, q_wpL_eq_1, q_exL_eq_1, q_exL_eq_5, q_exL_eq_8, q_exL_eq_28, q_look_eq_1, q_look_eq_2, q_insT_eq_1, q_insO_eq_1, q_awl_eq_2, q_awl_eq_5, q_AE_thenL_eq_1, q_initT_eq_1, q_initT_eq_2, q_putK_eq_1, q_loadO_eq_1, q_isV_eq_1, q_vLoad_eq_1, q_ofRow_eq_2, q_pureRow_eq_1, q_pureRow_eq_2, q_boxK_eq_1, q_freeB_eq_1, q_freeT_eq_1, q_freeT_eq_2, q_freeO_eq_1, q_V_noRef_eq_1, q_V_noRef_eq_2, q_K_noRef_eq_1, q_Option_map_some, q_List_map_cons, q_List_map_nil, q_List_take_succ_cons, q_List_take_zero, q_List_drop_zero, q_List_length_cons, q_List_length_nil, true_and, if_true, Bool.and_true, Bool.or_true, Nat.reduceAdd, Nat.reduceBEq, Nat.zero_add, Nat.le_refl, lookT_here, lookT_next, lookO_here, uf66, uf66r45, uf66b46, uf66r47, uf66b48]
    refine call_r (s65 t k hw cells) ?_
    have hnil := runN_nil hw cells
    obtain ⟨ck, cn, hcc⟩ : ∃ k n, eval t cells = Cell.mk k n := ⟨_, _, rfl⟩
    rw [hcc] at hnil ⊢
    cases ck
    · by_cases h2 : t.op = 2
      · have er : runN t cells = [t.n] := by
          rw [runN_eq, if_neg (by omega), if_pos h2]
          rw [eval_eq, if_neg (by omega), if_pos h2] at hcc
          rw [hcc]; rfl
        rw [er] at hS
        simp only [encCV, encCell, h2, q_wpLs_eq_1, q_wpLs_eq_2, q_wpL_eq_1, q_exL_eq_1, q_exL_eq_4, q_exL_eq_8, q_exL_eq_9, q_exL_eq_11, q_exL_eq_21, q_look_eq_1, q_look_eq_2, q_insT_eq_1, q_insO_eq_1, q_awl_eq_1, q_awl_eq_2, q_awl_eq_5, q_awl_eq_6, q_awl_eq_10, q_AE_thenL_eq_1, q_AE_thenL_eq_3, q_putK_eq_1, q_vBin_eq_1, q_resV_eq_1, q_binV_eq_1, q_binInt_eq_3, q_cutInt_eq_6, q_vFaddr_eq_1, q_loadO_eq_1, q_isV_eq_1, q_vLoad_eq_1, q_ofRow_eq_1, q_pureRow_eq_1, q_pureRow_eq_2, q_V_cells_eq_2, q_splice_eq_1, q_isVarO_eq_1, q_stVarK_eq_1, q_storeK_eq_1, q_mapT_eq_1, q_mapT_eq_2, q_mapO_eq_1, q_mapO_eq_2, q_freeB_eq_1, q_freeT_eq_1, q_freeT_eq_2, q_freeO_eq_1, q_freeO_eq_2, q_V_noRef_eq_1, q_V_noRef_eq_2, q_K_noRef_eq_1, q_K_noRef_eq_3, q_O_noRef_eq_1, q_endK_eq_2, q_endL_eq_1, q_endV_eq_1, q_resL_eq_1, q_resL_eq_2, q_resX_eq_1, q_one_eq_1, q_V_nrm_eq_1, q_V_nrm_eq_2, q_K_nrm_eq_1, q_K_nrm_eq_3, q_O_nrm_eq_1, q_V_owns_eq_1, q_K_owns_eq_2, q_V_toNew_eq_1, q_K_toNew_eq_1, q_C_norm_eq_4, q_C_norm_eq_5, q_C_normRow_eq_1, q_C_normRow_eq_2, q_regN_eq_2, q_V_reg_eq_4, q_freesL_eq_1, q_addsL_eq_1, q_regK_eq_1, q_retK_eq_2, q_Option_map_some, q_List_map_cons, q_List_map_nil, q_List_take_succ_cons, q_List_take_zero, q_List_drop_succ_cons, q_List_drop_zero, q_List_nil_append, q_List_length_cons, q_List_length_nil, q_List_all_cons, q_List_all_nil, true_and, if_true, if_false, Bool.false_eq_true, and_self, bne_iff_ne, ne_eq, Bool.and_true, Bool.true_and, Bool.or_true, Bool.false_or, BEq.rfl, List.append_nil, List.nodup_nil, Nat.reduceAdd, Nat.reduceMul, Nat.reduceEqDiff, Nat.reduceLeDiff, Nat.reduceBEq, Nat.zero_add, Nat.add_zero, Nat.le_refl, q_learn_eq_1, not_false_eq_true, q_condK_eq_1, q_condB_eq_1, q_condB_eq_2, norm_lst, normRows_T, normRows_Ce, lookT_here, lookT_next, lookO_here, lookO_next, uf66r33, uf66b34, uf66b35, uf66r36, uf66b37, uf66b38, uf66b41, uf66r42, uf66b43, uf66b44]
        exact fin hS (by simp [hasI, beq_dec])
      have h01 : ¬ (t.op = 0 ∨ t.op = 1) := by
        intro h
        have : eval t cells = ⟨true, t.n⟩ := by rw [eval_eq, if_pos h]
        rw [this] at hcc; simp at hcc
      have h3 : 3 ≤ t.op := by omega
      obtain ⟨g13, gar, gwt, gfirst⟩ := wt_args hw h3
      have ev : evalN t.op (t.args.map fun a => eval a cells) = ⟨false, cn⟩ := by rw [← hcc, eval_eq, if_neg h01, if_neg h2]
      have rn : runN t cells = if t.op = 6 ∧ ((t.args.map fun a => eval a cells).getD 0 ⟨false, 0⟩).known = true then (t.args.map fun a => runN a cells).getD (2 - ((t.args.map fun a => eval a cells).getD 0 ⟨false, 0⟩).n).toNat []
          else (t.args.map fun a => runN a cells).flatten := by
        rw [runN_eq, if_neg h01, if_neg h2, ev]; simp
      have hl3 : t.args.length ≤ 3 := by have : arity t.op ≤ 3 := by { unfold arity; (repeat' split) <;> omega }; omega
      have q0 : 0 < t.args.length := by have : 0 < arity t.op := by { unfold arity; (repeat' split) <;> omega }; omega
      have i0 : (0 : Int) < t.args.length := by omega
      obtain ⟨k0, n0, e0⟩ : ∃ k n, eval t.args[0] cells = Cell.mk k n := ⟨_, _, rfl⟩
      have d0 : (t.args.map fun a => eval a cells).getD 0 ⟨false, 0⟩ = ⟨k0, n0⟩ := by simp [List.getD_eq_getElem?_getD, List.getElem?_eq_getElem q0, e0]
      rw [d0] at rn
      obtain ⟨kw0, hw0⟩ := gwt t.args[0] (List.getElem_mem q0)
      have s0 := s65 t.args[0] kw0 hw0 cells
      rw [e0] at s0
      have hflat : ∀ i, i < t.args.length → hasI (((t.args.map fun a => runN a cells).take (i + 1)).flatten) v = (hasI (((t.args.map fun a => runN a cells).take i).flatten) v || hasI (runN (t.args.getD i default) cells) v) := by
        intro i hi
        rw [hasI_flat (by simpa using hi)]
        simp [hi]
      by_cases h6 : t.op = 6
      · cases k0
        · rw [if_neg (by simp)] at rn
          rw [rn] at hS
          simp only [encCV, encCell, h2, h6, i0, map_at q0, encT_len, List.length_map, q_wpLs_eq_1, q_wpLs_eq_2, q_wpL_eq_1, q_exL_eq_1, q_exL_eq_4, q_exL_eq_8, q_exL_eq_9, q_exL_eq_11, q_exL_eq_21, q_exL_eq_23, q_exL_eq_28, q_look_eq_1, q_look_eq_2, q_insT_eq_1, q_insO_eq_1, q_awl_eq_1, q_awl_eq_2, q_awl_eq_5, q_awl_eq_6, q_AE_thenL_eq_1, q_putK_eq_1, q_vBin_eq_1, q_resV_eq_1, q_binV_eq_1, q_binInt_eq_3, q_cutInt_eq_6, q_vFaddr_eq_1, q_partV_eq_1, q_loadO_eq_1, q_isV_eq_1, q_vLoad_eq_1, q_vLoad_eq_2, q_ofRow_eq_1, q_pureRow_eq_1, q_pureRow_eq_2, q_V_cells_eq_2, q_splice_eq_1, q_isVarO_eq_1, q_stVarK_eq_1, q_storeK_eq_1, q_freeB_eq_1, q_freeT_eq_1, q_freeT_eq_2, q_freeO_eq_1, q_freeO_eq_2, q_V_noRef_eq_1, q_V_noRef_eq_2, q_K_noRef_eq_1, q_K_noRef_eq_3, q_O_noRef_eq_1, q_regN_eq_2, q_V_reg_eq_4, q_freesL_eq_1, q_addsL_eq_1, q_regK_eq_1, q_retK_eq_2, q_Option_map_some, q_List_map_cons, q_List_map_nil, q_List_take_succ_cons, q_List_take_zero, q_List_drop_succ_cons, q_List_drop_zero, q_List_nil_append, q_List_length_cons, q_List_length_nil, q_List_all_cons, q_List_all_nil, true_and, if_true, if_false, Bool.false_eq_true, and_self, bne_iff_ne, ne_eq, Bool.and_true, Bool.true_and, Bool.or_true, Bool.false_or, BEq.rfl, List.append_nil, Nat.reduceAdd, Nat.reduceMul, Nat.reduceEqDiff, Nat.reduceLeDiff, Nat.reduceBEq, Nat.zero_add, Nat.add_zero, Int.toNat_zero, Nat.le_refl, q_learn_eq_1, not_false_eq_true, q_condK_eq_1, q_condB_eq_1, q_condB_eq_2, r_vIaddr_lst, List.length_map, lookT_here, lookT_next, Int.reduceLE, Int.reduceBEq, lookO_here, lookO_next, uf66r27, uf66b28, uf66b29, uf66r30, uf66b31, uf66b32, uf66b35, uf66r36, uf66b37, uf66b38, uf66b41, uf66r42, uf66b43, uf66b44]
          refine call_r s0 ?_
          simp only [encCV, encCell, h2, h6, q_wpLs_eq_1, q_wpLs_eq_2, q_wpL_eq_1, q_exL_eq_1, q_exL_eq_4, q_exL_eq_8, q_exL_eq_9, q_exL_eq_21, q_look_eq_1, q_look_eq_2, q_insT_eq_1, q_insO_eq_1, q_awl_eq_1, q_awl_eq_2, q_awl_eq_5, q_awl_eq_6, q_awl_eq_7, q_AE_thenL_eq_1, q_putK_eq_1, q_vFaddr_eq_1, q_loadO_eq_1, q_isV_eq_1, q_vLoad_eq_1, q_ofRow_eq_1, q_pureRow_eq_1, q_pureRow_eq_2, q_V_cells_eq_2, q_splice_eq_1, q_isVarO_eq_1, q_stVarK_eq_1, q_storeK_eq_1, q_freeB_eq_1, q_freeT_eq_1, q_freeT_eq_2, q_freeO_eq_1, q_freeO_eq_2, q_V_noRef_eq_1, q_V_noRef_eq_2, q_K_noRef_eq_1, q_K_noRef_eq_3, q_K_noRef_eq_5, q_O_noRef_eq_1, q_regN_eq_2, q_V_reg_eq_4, q_freesL_eq_1, q_addsL_eq_1, q_regK_eq_1, q_retK_eq_2, q_Option_map_some, q_List_map_cons, q_List_map_nil, q_List_take_succ_cons, q_List_take_zero, q_List_drop_succ_cons, q_List_drop_zero, q_List_nil_append, q_List_length_cons, q_List_length_nil, q_List_all_cons, q_List_all_nil, true_and, if_false, Bool.false_eq_true, and_self, bne_iff_ne, ne_eq, Bool.and_eq_true, Bool.and_true, Bool.true_and, Bool.or_true, Bool.false_or, List.append_nil, Nat.reduceAdd, Nat.reduceMul, Nat.reduceEqDiff, Nat.reduceLeDiff, Nat.reduceBEq, Nat.zero_add, Nat.add_zero, Nat.le_refl, q_learn_eq_1, not_false_eq_true, q_condK_eq_1, q_condB_eq_2, lookT_here, lookT_next, lookO_here, uf66b18, uf66r19, uf66b20, uf66b21, uf66b24, uf66r25, uf66b26]
          rw [uf66l17]
          refine awl_loop (fun i : Nat => [(1, lst 2 (cells.map encCell)), (2, .int .i64 v), (3, .k (.ptr 3 0)), (9, .int .i64 i)]) (fun _ => [(3, .var 41 [.c (.int .i64 t.op), .c (.int .i64 t.n), .c (lstC 3 (t.args.map encT))])])
            (fun i => i ≤ t.args.length ∧ hasI (((t.args.map fun a => runN a cells).take i).flatten) v = false) (fun i => t.args.length - i) 0 rfl (by first | rfl | (rw [h6]; rfl)) ⟨Nat.zero_le _, rfl⟩ ?_
          rintro i ⟨hi, hno⟩
          by_cases hlt : i < t.args.length
          · have c1 : (i : Int) < t.args.length := by omega
            have c4 : IntKind.i64.wrap ((i : Int) + 1) = (i : Int) + 1 := wrap_in (by omega) (by omega)
            obtain ⟨kk, hk⟩ := gwt t.args[i] (List.getElem_mem hlt)
            have hf := hflat i hlt
            have eg : t.args.getD i default = t.args[i] := by simp [List.getD_eq_getElem?_getD, List.getElem?_eq_getElem hlt]
            rw [hno, Bool.false_or, eg] at hf
            simp only [c1, map_at hlt, encT_len, List.length_map, q_wpLs_eq_1, q_wpLs_eq_2, q_wpL_eq_1, q_exL_eq_1, q_exL_eq_8, q_exL_eq_11, q_exL_eq_21, q_exL_eq_23, q_exL_eq_28, q_exL_eq_30, q_look_eq_1, q_insT_eq_1, q_awl_eq_1, q_awl_eq_2, q_awl_eq_5, q_awl_eq_6, q_awl_eq_7, q_AE_thenL_eq_1, q_putK_eq_1, q_vBin_eq_1, q_resV_eq_1, q_binV_eq_1, q_binInt_eq_3, q_cutInt_eq_8, q_vFaddr_eq_1, q_partV_eq_1, q_loadO_eq_1, q_isV_eq_1, q_vLoad_eq_1, q_vLoad_eq_2, q_ofRow_eq_1, q_pureRow_eq_1, q_pureRow_eq_2, q_isVarO_eq_1, q_Option_map_some, q_List_map_cons, q_List_map_nil, q_List_take_succ_cons, q_List_take_zero, q_List_drop_succ_cons, q_List_drop_zero, q_List_length_cons, q_List_length_nil, true_and, if_true, if_false, Bool.false_eq_true, and_self, Nat.reduceAdd, Nat.reduceBEq, Nat.zero_add, Int.toNat_natCast, Nat.le_refl, Int.natCast_nonneg, q_learn_eq_1, q_condK_eq_1, q_condB_eq_1, decide_true, r_vLen_lst, r_vIaddr_lst, List.length_map, lookT_here, lookT_next, lookO_here, uf66r3, uf66r9, uf66b10, uf66b11, uf66b12, uf66b13, uf66r14, uf66b15, uf66b16]
            refine call_s (ih t.args[i] (List.getElem_mem hlt) kk hk cells v) ?_
            cases hb : hasI (runN t.args[i] cells) v
            · rw [hb] at hf
              simp only [c4, hb, q_wpLs_eq_1, q_wpLs_eq_2, q_wpL_eq_1, q_exL_eq_1, q_exL_eq_11, q_look_eq_1, q_look_eq_2, q_insT_eq_1, q_awl_eq_1, q_awl_eq_2, q_awl_eq_5, q_awl_eq_6, q_AE_thenL_eq_1, q_AE_inBlockL_eq_1, q_putK_eq_1, q_vBin_eq_1, q_resV_eq_1, q_binV_eq_1, q_binInt_eq_3, q_cutInt_eq_1, true_and, if_true, Nat.reduceBEq, q_learn_eq_1, q_condK_eq_1, q_condB_eq_2, lookT_here, lookT_next, uf66b6, uf66r7, uf66b8]
              exact Next.intro (i + 1) rfl rfl ⟨by omega, hf⟩ (by omega)
            · have : hasI (t.args.map fun a => runN a cells).flatten v = true := by
                rw [mem_hasI] at hb ⊢
                exact List.mem_flatten.2 ⟨_, List.mem_map.2 ⟨_, List.getElem_mem hlt, rfl⟩, hb⟩
              rw [this] at hS
              simp only [hb, q_wpLs_eq_1, q_wpLs_eq_2, q_wpL_eq_1, q_exL_eq_1, q_look_eq_1, q_look_eq_2, q_insT_eq_1, q_awl_eq_2, q_awl_eq_5, q_awl_eq_6, q_awl_eq_10, q_AE_thenL_eq_1, q_AE_thenL_eq_3, q_AE_inBlockL_eq_3, q_mapT_eq_1, q_mapT_eq_2, q_mapO_eq_1, q_mapO_eq_2, q_endK_eq_2, q_endL_eq_1, q_endV_eq_1, q_resL_eq_1, q_resL_eq_2, q_resX_eq_1, q_one_eq_1, q_V_nrm_eq_1, q_V_nrm_eq_2, q_K_nrm_eq_1, q_K_nrm_eq_2, q_K_nrm_eq_3, q_O_nrm_eq_1, q_V_owns_eq_1, q_K_owns_eq_2, q_V_toNew_eq_1, q_K_toNew_eq_1, q_C_norm_eq_4, q_C_norm_eq_5, q_List_map_cons, q_List_map_nil, true_and, and_self, List.nodup_nil, q_learn_eq_1, q_condK_eq_1, q_condB_eq_1, norm_lst, normRows_T, normRows_Ce, encT_norm, lookT_here, uf66r4, uf66b5, uf66b6, uf66r7, uf66b8]
              exact hS
          · have c1 : ¬ (i : Int) < t.args.length := by omega
            rw [List.take_of_length_le (by simp; omega)] at hno
            rw [hno] at hS
            simp only [c1, List.length_map, q_wpLs_eq_1, q_wpLs_eq_2, q_wpL_eq_1, q_exL_eq_1, q_exL_eq_8, q_exL_eq_11, q_exL_eq_21, q_exL_eq_30, q_look_eq_1, q_look_eq_2, q_insT_eq_1, q_awl_eq_2, q_awl_eq_5, q_awl_eq_6, q_awl_eq_9, q_awl_eq_10, q_AE_thenL_eq_1, q_AE_thenL_eq_2, q_AE_inBlockL_eq_2, q_putK_eq_1, q_vBin_eq_1, q_resV_eq_1, q_binV_eq_1, q_binInt_eq_3, q_cutInt_eq_8, q_vFaddr_eq_1, q_loadO_eq_1, q_isV_eq_1, q_vLoad_eq_1, q_ofRow_eq_1, q_pureRow_eq_1, q_pureRow_eq_2, q_isVarO_eq_1, q_mapT_eq_1, q_mapT_eq_2, q_mapO_eq_1, q_mapO_eq_2, q_endK_eq_2, q_endL_eq_1, q_endV_eq_1, q_resL_eq_1, q_resL_eq_2, q_resX_eq_1, q_one_eq_1, q_V_nrm_eq_1, q_K_nrm_eq_1, q_K_nrm_eq_3, q_O_nrm_eq_1, q_V_owns_eq_1, q_K_owns_eq_2, q_V_toNew_eq_1, q_K_toNew_eq_1, q_C_norm_eq_4, q_C_norm_eq_5, q_Option_map_some, q_List_map_cons, q_List_map_nil, q_List_take_succ_cons, q_List_take_zero, q_List_drop_succ_cons, q_List_drop_zero, q_List_length_cons, q_List_length_nil, true_and, if_true, if_false, Bool.false_eq_true, and_self, List.nodup_nil, Nat.reduceAdd, Nat.reduceBEq, Nat.zero_add, Nat.le_refl, q_learn_eq_1, q_condK_eq_1, q_condB_eq_2, decide_false, r_vLen_lst, norm_lst, normRows_T, normRows_Ce, List.length_map, lookT_here, lookT_next, lookO_here, uf66r1, uf66b2, uf66b13, uf66r14, uf66b15, uf66b16]
            exact hS
        · rw [if_pos ⟨h6, rfl⟩] at rn
          have hv0 := vr_eval (gfirst (.inr h6) q0) cells
          rw [e0] at hv0
          have h01' := bit_of (k := 1) hv0 rfl
          simp only [] at h01' rn
          rw [h6] at gar
          have h63 : arity 6 = 3 := by decide
          have l3 : t.args.length = 3 := by omega
          have w0 : IntKind.i64.wrap 2 = 2 := rfl
          have w1 : IntKind.i64.wrap 1 = 1 := rfl
          have t2 : (2 : Int).toNat = 2 := rfl
          have t1 : (1 : Int).toNat = 1 := rfl
          simp only [encCV, encCell, h2, h6, i0, map_at q0, encT_len, List.length_map, q_wpLs_eq_1, q_wpLs_eq_2, q_wpL_eq_1, q_exL_eq_1, q_exL_eq_4, q_exL_eq_8, q_exL_eq_9, q_exL_eq_11, q_exL_eq_21, q_exL_eq_23, q_exL_eq_28, q_look_eq_1, q_look_eq_2, q_insT_eq_1, q_insO_eq_1, q_awl_eq_1, q_awl_eq_2, q_awl_eq_5, q_awl_eq_6, q_AE_thenL_eq_1, q_putK_eq_1, q_vBin_eq_1, q_resV_eq_1, q_binV_eq_1, q_binInt_eq_3, q_cutInt_eq_6, q_vFaddr_eq_1, q_partV_eq_1, q_loadO_eq_1, q_isV_eq_1, q_vLoad_eq_1, q_vLoad_eq_2, q_ofRow_eq_1, q_pureRow_eq_1, q_pureRow_eq_2, q_V_cells_eq_2, q_splice_eq_1, q_isVarO_eq_1, q_stVarK_eq_1, q_storeK_eq_1, q_freeB_eq_1, q_freeT_eq_1, q_freeT_eq_2, q_freeO_eq_1, q_freeO_eq_2, q_V_noRef_eq_1, q_V_noRef_eq_2, q_K_noRef_eq_1, q_K_noRef_eq_3, q_O_noRef_eq_1, q_regN_eq_2, q_V_reg_eq_4, q_freesL_eq_1, q_addsL_eq_1, q_regK_eq_1, q_retK_eq_2, q_Option_map_some, q_List_map_cons, q_List_map_nil, q_List_take_succ_cons, q_List_take_zero, q_List_drop_succ_cons, q_List_drop_zero, q_List_nil_append, q_List_length_cons, q_List_length_nil, q_List_all_cons, q_List_all_nil, true_and, if_true, if_false, Bool.false_eq_true, and_self, bne_iff_ne, ne_eq, Bool.and_true, Bool.true_and, Bool.or_true, Bool.false_or, BEq.rfl, List.append_nil, Nat.reduceAdd, Nat.reduceMul, Nat.reduceEqDiff, Nat.reduceLeDiff, Nat.reduceBEq, Nat.zero_add, Nat.add_zero, Int.toNat_zero, Nat.le_refl, q_learn_eq_1, not_false_eq_true, q_condK_eq_1, q_condB_eq_1, q_condB_eq_2, r_vIaddr_lst, List.length_map, lookT_here, lookT_next, Int.reduceLE, Int.reduceBEq, lookO_here, lookO_next, uf66r27, uf66b28, uf66b29, uf66r30, uf66b31, uf66b32, uf66b35, uf66r36, uf66b37, uf66b38, uf66b41, uf66r42, uf66b43, uf66b44]
          refine call_r s0 ?_
          rcases h01' with rfl | rfl
          · have q2 : 2 < t.args.length := by omega
            have i2 : (2 : Int) < t.args.length := by omega
            obtain ⟨kk, hk⟩ := gwt t.args[2] (List.getElem_mem q2)
            simp only [encCV, encCell, h2, h6, i2, w0, t2, map_at q2, encT_len, List.length_map, q_wpLs_eq_1, q_wpLs_eq_2, q_wpL_eq_1, q_exL_eq_1, q_exL_eq_4, q_exL_eq_8, q_exL_eq_9, q_exL_eq_11, q_exL_eq_21, q_exL_eq_23, q_exL_eq_28, q_look_eq_1, q_look_eq_2, q_insT_eq_1, q_insO_eq_1, q_awl_eq_2, q_awl_eq_5, q_awl_eq_6, q_AE_thenL_eq_1, q_putK_eq_1, q_vBin_eq_1, q_resV_eq_1, q_binV_eq_1, q_binInt_eq_3, q_cutInt_eq_2, q_vFaddr_eq_1, q_partV_eq_1, q_loadO_eq_1, q_isV_eq_1, q_vLoad_eq_1, q_vLoad_eq_2, q_ofRow_eq_1, q_pureRow_eq_1, q_pureRow_eq_2, q_V_cells_eq_2, q_splice_eq_1, q_isVarO_eq_1, q_stVarK_eq_1, q_storeK_eq_1, q_freeB_eq_1, q_freeT_eq_1, q_freeT_eq_2, q_freeO_eq_1, q_freeO_eq_2, q_V_noRef_eq_1, q_V_noRef_eq_2, q_K_noRef_eq_1, q_K_noRef_eq_3, q_K_noRef_eq_5, q_O_noRef_eq_1, q_regN_eq_2, q_V_reg_eq_4, q_freesL_eq_1, q_addsL_eq_1, q_regK_eq_1, q_retK_eq_2, q_Option_map_some, q_List_map_cons, q_List_map_nil, q_List_take_succ_cons, q_List_take_zero, q_List_drop_succ_cons, q_List_drop_zero, q_List_nil_append, q_List_length_cons, q_List_length_nil, q_List_all_cons, q_List_all_nil, true_and, if_true, if_false, Bool.false_eq_true, and_self, bne_iff_ne, ne_eq, Bool.and_eq_true, Bool.and_true, Bool.true_and, Bool.or_true, Bool.false_or, List.append_nil, Nat.reduceAdd, Nat.reduceMul, Nat.reduceEqDiff, Nat.reduceLeDiff, Nat.reduceBEq, Nat.zero_add, Nat.add_zero, Nat.le_refl, q_learn_eq_1, not_false_eq_true, q_condK_eq_1, q_condB_eq_1, r_vIaddr_lst, List.length_map, lookT_here, lookT_next, Int.reduceLE, Int.reduceSub, lookO_here, lookO_next, uf66r22, uf66b23, uf66b24, uf66r25, uf66b26]
            refine call_s (ih t.args[2] (List.getElem_mem q2) kk hk cells v) ?_
            simp only [q_wpLs_eq_1, q_wpLs_eq_2, q_wpL_eq_1, q_exL_eq_1, q_look_eq_1, q_insT_eq_1, q_awl_eq_10, q_AE_thenL_eq_3, q_mapT_eq_1, q_mapT_eq_2, q_mapO_eq_1, q_mapO_eq_2, q_endK_eq_2, q_endL_eq_1, q_endV_eq_1, q_resL_eq_1, q_resL_eq_2, q_resX_eq_1, q_one_eq_1, q_V_nrm_eq_1, q_V_nrm_eq_2, q_K_nrm_eq_1, q_K_nrm_eq_2, q_K_nrm_eq_3, q_O_nrm_eq_1, q_V_owns_eq_1, q_K_owns_eq_2, q_V_toNew_eq_1, q_K_toNew_eq_1, q_C_norm_eq_4, q_C_norm_eq_5, q_C_normRow_eq_1, q_C_normRow_eq_2, q_List_map_cons, q_List_map_nil, true_and, and_self, List.nodup_nil, norm_lst, normRows_T, normRows_Ce, encT_norm, lookT_here]
            exact fin hS (by rw [rn]; simp [List.getElem?_eq_getElem q2])
          · have q2 : 1 < t.args.length := by omega
            have i2 : (1 : Int) < t.args.length := by omega
            obtain ⟨kk, hk⟩ := gwt t.args[1] (List.getElem_mem q2)
            simp only [encCV, encCell, h2, h6, i2, w1, t1, map_at q2, encT_len, List.length_map, q_wpLs_eq_1, q_wpLs_eq_2, q_wpL_eq_1, q_exL_eq_1, q_exL_eq_4, q_exL_eq_8, q_exL_eq_9, q_exL_eq_11, q_exL_eq_21, q_exL_eq_23, q_exL_eq_28, q_look_eq_1, q_look_eq_2, q_insT_eq_1, q_insO_eq_1, q_awl_eq_2, q_awl_eq_5, q_awl_eq_6, q_AE_thenL_eq_1, q_putK_eq_1, q_vBin_eq_1, q_resV_eq_1, q_binV_eq_1, q_binInt_eq_3, q_cutInt_eq_2, q_vFaddr_eq_1, q_partV_eq_1, q_loadO_eq_1, q_isV_eq_1, q_vLoad_eq_1, q_vLoad_eq_2, q_ofRow_eq_1, q_pureRow_eq_1, q_pureRow_eq_2, q_V_cells_eq_2, q_splice_eq_1, q_isVarO_eq_1, q_stVarK_eq_1, q_storeK_eq_1, q_freeB_eq_1, q_freeT_eq_1, q_freeT_eq_2, q_freeO_eq_1, q_freeO_eq_2, q_V_noRef_eq_1, q_V_noRef_eq_2, q_K_noRef_eq_1, q_K_noRef_eq_3, q_K_noRef_eq_5, q_O_noRef_eq_1, q_regN_eq_2, q_V_reg_eq_4, q_freesL_eq_1, q_addsL_eq_1, q_regK_eq_1, q_retK_eq_2, q_Option_map_some, q_List_map_cons, q_List_map_nil, q_List_take_succ_cons, q_List_take_zero, q_List_drop_succ_cons, q_List_drop_zero, q_List_nil_append, q_List_length_cons, q_List_length_nil, q_List_all_cons, q_List_all_nil, true_and, if_true, if_false, Bool.false_eq_true, and_self, bne_iff_ne, ne_eq, Bool.and_eq_true, Bool.and_true, Bool.true_and, Bool.or_true, Bool.false_or, List.append_nil, Nat.reduceAdd, Nat.reduceMul, Nat.reduceEqDiff, Nat.reduceLeDiff, Nat.reduceBEq, Nat.zero_add, Nat.add_zero, Nat.le_refl, q_learn_eq_1, not_false_eq_true, q_condK_eq_1, q_condB_eq_1, r_vIaddr_lst, List.length_map, lookT_here, lookT_next, Int.reduceLE, Int.reduceSub, lookO_here, lookO_next, uf66r22, uf66b23, uf66b24, uf66r25, uf66b26]
            refine call_s (ih t.args[1] (List.getElem_mem q2) kk hk cells v) ?_
            simp only [q_wpLs_eq_1, q_wpLs_eq_2, q_wpL_eq_1, q_exL_eq_1, q_look_eq_1, q_insT_eq_1, q_awl_eq_10, q_AE_thenL_eq_3, q_mapT_eq_1, q_mapT_eq_2, q_mapO_eq_1, q_mapO_eq_2, q_endK_eq_2, q_endL_eq_1, q_endV_eq_1, q_resL_eq_1, q_resL_eq_2, q_resX_eq_1, q_one_eq_1, q_V_nrm_eq_1, q_V_nrm_eq_2, q_K_nrm_eq_1, q_K_nrm_eq_2, q_K_nrm_eq_3, q_O_nrm_eq_1, q_V_owns_eq_1, q_K_owns_eq_2, q_V_toNew_eq_1, q_K_toNew_eq_1, q_C_norm_eq_4, q_C_norm_eq_5, q_C_normRow_eq_1, q_C_normRow_eq_2, q_List_map_cons, q_List_map_nil, true_and, and_self, List.nodup_nil, norm_lst, normRows_T, normRows_Ce, encT_norm, lookT_here]
            exact fin hS (by rw [rn]; simp [List.getElem?_eq_getElem q2])
      · rw [if_neg (by simp [h6])] at rn
        rw [rn] at hS
        simp only [encCV, encCell, h2, h6, q_wpLs_eq_1, q_wpLs_eq_2, q_wpL_eq_1, q_exL_eq_1, q_exL_eq_4, q_exL_eq_8, q_exL_eq_9, q_exL_eq_11, q_exL_eq_21, q_exL_eq_23, q_exL_eq_28, q_look_eq_1, q_look_eq_2, q_insT_eq_1, q_insO_eq_1, q_awl_eq_1, q_awl_eq_2, q_awl_eq_5, q_awl_eq_6, q_awl_eq_7, q_awl_eq_10, q_AE_thenL_eq_1, q_AE_thenL_eq_3, q_putK_eq_1, q_vBin_eq_1, q_resV_eq_1, q_binV_eq_1, q_binInt_eq_3, q_cutInt_eq_6, q_vFaddr_eq_1, q_partV_eq_1, q_loadO_eq_1, q_isV_eq_1, q_vLoad_eq_1, q_vLoad_eq_2, q_ofRow_eq_1, q_pureRow_eq_1, q_pureRow_eq_2, q_V_cells_eq_2, q_splice_eq_1, q_isVarO_eq_1, q_stVarK_eq_1, q_storeK_eq_1, q_mapT_eq_1, q_mapT_eq_2, q_mapO_eq_1, q_mapO_eq_2, q_freeB_eq_1, q_freeT_eq_1, q_freeT_eq_2, q_freeO_eq_1, q_freeO_eq_2, q_V_noRef_eq_1, q_V_noRef_eq_2, q_K_noRef_eq_1, q_K_noRef_eq_3, q_O_noRef_eq_1, q_endK_eq_2, q_endL_eq_1, q_endV_eq_1, q_resL_eq_1, q_resL_eq_2, q_resX_eq_1, q_one_eq_1, q_V_nrm_eq_1, q_V_nrm_eq_2, q_K_nrm_eq_1, q_K_nrm_eq_3, q_O_nrm_eq_1, q_V_owns_eq_1, q_K_owns_eq_2, q_V_toNew_eq_1, q_K_toNew_eq_1, q_C_norm_eq_4, q_C_norm_eq_5, q_C_normRow_eq_1, q_C_normRow_eq_2, q_regN_eq_2, q_V_reg_eq_4, q_freesL_eq_1, q_addsL_eq_1, q_regK_eq_1, q_retK_eq_2, q_Option_map_some, q_List_map_cons, q_List_map_nil, q_List_take_succ_cons, q_List_take_zero, q_List_drop_succ_cons, q_List_drop_zero, q_List_nil_append, q_List_length_cons, q_List_length_nil, q_List_all_cons, q_List_all_nil, true_and, if_true, if_false, Bool.false_eq_true, false_implies, forall_const, and_self, bne_iff_ne, ne_eq, Bool.and_true, Bool.true_and, Bool.or_true, Bool.false_or, List.append_nil, List.nodup_nil, Nat.reduceAdd, Nat.reduceMul, Nat.reduceEqDiff, Nat.reduceLeDiff, Nat.reduceBEq, Nat.zero_add, Nat.add_zero, Int.toNat_zero, Nat.le_refl, q_learn_eq_1, not_false_eq_true, q_condK_eq_1, q_condB_eq_2, condB_beq, r_vIaddr_lst, norm_lst, normRows_T, normRows_Ce, List.length_map, lookT_here, lookT_next, Int.reduceLE, lookO_here, lookO_next, uf66b18, uf66r19, uf66b20, uf66b21, uf66r27, uf66b28, uf66b29, uf66r30, uf66b31, uf66b32, uf66r33, uf66b34, uf66b35, uf66r36, uf66b37, uf66b38, uf66b41, uf66r42, uf66b43, uf66b44]
        rw [uf66l17]
        refine awl_loop (fun i : Nat => [(1, lst 2 (cells.map encCell)), (2, .int .i64 v), (3, .k (.ptr 3 0)), (9, .int .i64 i)]) (fun _ => [(3, .var 41 [.c (.int .i64 t.op), .c (.int .i64 t.n), .c (lstC 3 (t.args.map encT))])])
          (fun i => i ≤ t.args.length ∧ hasI (((t.args.map fun a => runN a cells).take i).flatten) v = false) (fun i => t.args.length - i) 0 rfl (by first | rfl | (rw [h6]; rfl)) ⟨Nat.zero_le _, rfl⟩ ?_
        rintro i ⟨hi, hno⟩
        by_cases hlt : i < t.args.length
        · have c1 : (i : Int) < t.args.length := by omega
          have c4 : IntKind.i64.wrap ((i : Int) + 1) = (i : Int) + 1 := wrap_in (by omega) (by omega)
          obtain ⟨kk, hk⟩ := gwt t.args[i] (List.getElem_mem hlt)
          have hf := hflat i hlt
          have eg : t.args.getD i default = t.args[i] := by simp [List.getD_eq_getElem?_getD, List.getElem?_eq_getElem hlt]
          rw [hno, Bool.false_or, eg] at hf
          simp only [c1, map_at hlt, encT_len, List.length_map, q_wpLs_eq_1, q_wpLs_eq_2, q_wpL_eq_1, q_exL_eq_1, q_exL_eq_8, q_exL_eq_11, q_exL_eq_21, q_exL_eq_23, q_exL_eq_28, q_exL_eq_30, q_look_eq_1, q_insT_eq_1, q_awl_eq_1, q_awl_eq_2, q_awl_eq_5, q_awl_eq_6, q_awl_eq_7, q_AE_thenL_eq_1, q_putK_eq_1, q_vBin_eq_1, q_resV_eq_1, q_binV_eq_1, q_binInt_eq_3, q_cutInt_eq_8, q_vFaddr_eq_1, q_partV_eq_1, q_loadO_eq_1, q_isV_eq_1, q_vLoad_eq_1, q_vLoad_eq_2, q_ofRow_eq_1, q_pureRow_eq_1, q_pureRow_eq_2, q_isVarO_eq_1, q_Option_map_some, q_List_map_cons, q_List_map_nil, q_List_take_succ_cons, q_List_take_zero, q_List_drop_succ_cons, q_List_drop_zero, q_List_length_cons, q_List_length_nil, true_and, if_true, if_false, Bool.false_eq_true, and_self, Nat.reduceAdd, Nat.reduceBEq, Nat.zero_add, Int.toNat_natCast, Nat.le_refl, Int.natCast_nonneg, q_learn_eq_1, q_condK_eq_1, q_condB_eq_1, decide_true, r_vLen_lst, r_vIaddr_lst, List.length_map, lookT_here, lookT_next, lookO_here, uf66r3, uf66r9, uf66b10, uf66b11, uf66b12, uf66b13, uf66r14, uf66b15, uf66b16]
          refine call_s (ih t.args[i] (List.getElem_mem hlt) kk hk cells v) ?_
          cases hb : hasI (runN t.args[i] cells) v
          · rw [hb] at hf
            simp only [c4, hb, q_wpLs_eq_1, q_wpLs_eq_2, q_wpL_eq_1, q_exL_eq_1, q_exL_eq_11, q_look_eq_1, q_look_eq_2, q_insT_eq_1, q_awl_eq_1, q_awl_eq_2, q_awl_eq_5, q_awl_eq_6, q_AE_thenL_eq_1, q_AE_inBlockL_eq_1, q_putK_eq_1, q_vBin_eq_1, q_resV_eq_1, q_binV_eq_1, q_binInt_eq_3, q_cutInt_eq_1, true_and, if_true, Nat.reduceBEq, q_learn_eq_1, q_condK_eq_1, q_condB_eq_2, lookT_here, lookT_next, uf66b6, uf66r7, uf66b8]
            exact Next.intro (i + 1) rfl rfl ⟨by omega, hf⟩ (by omega)
          · have : hasI (t.args.map fun a => runN a cells).flatten v = true := by
              rw [mem_hasI] at hb ⊢
              exact List.mem_flatten.2 ⟨_, List.mem_map.2 ⟨_, List.getElem_mem hlt, rfl⟩, hb⟩
            rw [this] at hS
            simp only [hb, q_wpLs_eq_1, q_wpLs_eq_2, q_wpL_eq_1, q_exL_eq_1, q_look_eq_1, q_look_eq_2, q_insT_eq_1, q_awl_eq_2, q_awl_eq_5, q_awl_eq_6, q_awl_eq_10, q_AE_thenL_eq_1, q_AE_thenL_eq_3, q_AE_inBlockL_eq_3, q_mapT_eq_1, q_mapT_eq_2, q_mapO_eq_1, q_mapO_eq_2, q_endK_eq_2, q_endL_eq_1, q_endV_eq_1, q_resL_eq_1, q_resL_eq_2, q_resX_eq_1, q_one_eq_1, q_V_nrm_eq_1, q_V_nrm_eq_2, q_K_nrm_eq_1, q_K_nrm_eq_2, q_K_nrm_eq_3, q_O_nrm_eq_1, q_V_owns_eq_1, q_K_owns_eq_2, q_V_toNew_eq_1, q_K_toNew_eq_1, q_C_norm_eq_4, q_C_norm_eq_5, q_List_map_cons, q_List_map_nil, true_and, and_self, List.nodup_nil, q_learn_eq_1, q_condK_eq_1, q_condB_eq_1, norm_lst, normRows_T, normRows_Ce, encT_norm, lookT_here, uf66r4, uf66b5, uf66b6, uf66r7, uf66b8]
            exact hS
        · have c1 : ¬ (i : Int) < t.args.length := by omega
          rw [List.take_of_length_le (by simp; omega)] at hno
          rw [hno] at hS
          simp only [c1, List.length_map, q_wpLs_eq_1, q_wpLs_eq_2, q_wpL_eq_1, q_exL_eq_1, q_exL_eq_8, q_exL_eq_11, q_exL_eq_21, q_exL_eq_30, q_look_eq_1, q_look_eq_2, q_insT_eq_1, q_awl_eq_2, q_awl_eq_5, q_awl_eq_6, q_awl_eq_9, q_awl_eq_10, q_AE_thenL_eq_1, q_AE_thenL_eq_2, q_AE_inBlockL_eq_2, q_putK_eq_1, q_vBin_eq_1, q_resV_eq_1, q_binV_eq_1, q_binInt_eq_3, q_cutInt_eq_8, q_vFaddr_eq_1, q_loadO_eq_1, q_isV_eq_1, q_vLoad_eq_1, q_ofRow_eq_1, q_pureRow_eq_1, q_pureRow_eq_2, q_isVarO_eq_1, q_mapT_eq_1, q_mapT_eq_2, q_mapO_eq_1, q_mapO_eq_2, q_endK_eq_2, q_endL_eq_1, q_endV_eq_1, q_resL_eq_1, q_resL_eq_2, q_resX_eq_1, q_one_eq_1, q_V_nrm_eq_1, q_K_nrm_eq_1, q_K_nrm_eq_3, q_O_nrm_eq_1, q_V_owns_eq_1, q_K_owns_eq_2, q_V_toNew_eq_1, q_K_toNew_eq_1, q_C_norm_eq_4, q_C_norm_eq_5, q_Option_map_some, q_List_map_cons, q_List_map_nil, q_List_take_succ_cons, q_List_take_zero, q_List_drop_succ_cons, q_List_drop_zero, q_List_length_cons, q_List_length_nil, true_and, if_true, if_false, Bool.false_eq_true, and_self, List.nodup_nil, Nat.reduceAdd, Nat.reduceBEq, Nat.zero_add, Nat.le_refl, q_learn_eq_1, q_condK_eq_1, q_condB_eq_2, decide_false, r_vLen_lst, norm_lst, normRows_T, normRows_Ce, List.length_map, lookT_here, lookT_next, lookO_here, uf66r1, uf66b2, uf66b13, uf66r14, uf66b15, uf66b16]
          exact hS
    · have er := hnil.2 rfl
      rw [er] at hS
      simp only [encCV, encCell, q_wpLs_eq_1, q_wpLs_eq_2, q_wpL_eq_1, q_exL_eq_1, q_exL_eq_4, q_exL_eq_8, q_exL_eq_9, q_exL_eq_21, q_look_eq_1, q_look_eq_2, q_insT_eq_1, q_insO_eq_1, q_awl_eq_2, q_awl_eq_5, q_awl_eq_6, q_awl_eq_10, q_AE_thenL_eq_1, q_AE_thenL_eq_3, q_putK_eq_1, q_vFaddr_eq_1, q_loadO_eq_1, q_isV_eq_1, q_vLoad_eq_1, q_ofRow_eq_1, q_pureRow_eq_1, q_pureRow_eq_2, q_V_cells_eq_2, q_splice_eq_1, q_isVarO_eq_1, q_stVarK_eq_1, q_storeK_eq_1, q_mapT_eq_1, q_mapT_eq_2, q_mapO_eq_1, q_mapO_eq_2, q_freeB_eq_1, q_freeT_eq_1, q_freeT_eq_2, q_freeO_eq_1, q_freeO_eq_2, q_V_noRef_eq_1, q_V_noRef_eq_2, q_K_noRef_eq_1, q_K_noRef_eq_3, q_O_noRef_eq_1, q_endK_eq_2, q_endL_eq_1, q_endV_eq_1, q_resL_eq_1, q_resL_eq_2, q_resX_eq_1, q_one_eq_1, q_V_nrm_eq_1, q_V_nrm_eq_2, q_K_nrm_eq_1, q_K_nrm_eq_3, q_O_nrm_eq_1, q_V_owns_eq_1, q_K_owns_eq_2, q_V_toNew_eq_1, q_K_toNew_eq_1, q_C_norm_eq_4, q_C_norm_eq_5, q_C_normRow_eq_1, q_C_normRow_eq_2, q_regN_eq_2, q_V_reg_eq_4, q_freesL_eq_1, q_addsL_eq_1, q_regK_eq_1, q_retK_eq_2, q_Option_map_some, q_List_map_cons, q_List_map_nil, q_List_take_succ_cons, q_List_take_zero, q_List_drop_succ_cons, q_List_drop_zero, q_List_nil_append, q_List_length_cons, q_List_length_nil, q_List_all_cons, q_List_all_nil, true_and, if_false, Bool.false_eq_true, and_self, bne_iff_ne, ne_eq, Bool.and_true, Bool.true_and, Bool.or_true, Bool.false_or, List.append_nil, List.nodup_nil, Nat.reduceAdd, Nat.reduceMul, Nat.reduceEqDiff, Nat.reduceLeDiff, Nat.reduceBEq, Nat.zero_add, Nat.add_zero, Nat.le_refl, q_learn_eq_1, not_false_eq_true, q_condK_eq_1, q_condB_eq_1, norm_lst, normRows_T, normRows_Ce, lookT_here, lookT_next, lookO_here, uf66r39, uf66b40, uf66b41, uf66r42, uf66b43, uf66b44]
      exact hS
  exact Term.ind fun o n a ih => main _ ih
end Go.Abs


set_option maxRecDepth 100000
set_option maxHeartbeats 4000000
namespace Go.Abs
open Go.Proofs
def reachT (t : Term) (cells : List Cell) : List Int := if (checkT t).2 ≠ 0 then [] else (upto 20).filter fun v => hasI (runN t cells) v
theorem s40 (t : Term) (cells : List Cell) : Spec Try.prog 40 [.agg (encT t), lst 2 (cells.map encCell)] (fun r => r = .k (.newl 3 1 none (ints (reachT t cells)))) := by
  refine Spec.of_awlS hf40 okf40 (by simp) fun S hS => ?_
  simp only [q_wpLs_eq_1, q_wpLs_eq_2, q_wpL_eq_1, q_exL_eq_1, q_exL_eq_2, q_exL_eq_5, q_exL_eq_7, q_exL_eq_8, q_exL_eq_28, q_look_eq_1, q_insT_eq_1, q_insO_eq_1, q_awl_eq_2, q_awl_eq_5, q_AE_thenL_eq_1, q_initT_eq_1, q_initT_eq_2, q_putK_eq_1, q_loadO_eq_1, q_isV_eq_1, q_vLoad_eq_1, q_boxK_eq_1, q_vLits_eq_1, q_bsK_eq_1, q_freeB_eq_1, q_freeT_eq_1, q_freeT_eq_2, q_freeO_eq_1, q_freeO_eq_2, q_V_noRef_eq_1, q_V_noRef_eq_2, q_K_noRef_eq_1, q_K_noRef_eq_2, q_K_noRef_eq_3, q_O_noRef_eq_1, q_O_noRef_eq_2, q_List_map_cons, q_List_map_nil, q_List_drop_zero, q_List_foldl_nil, q_List_replicate_zero, q_List_length_cons, q_List_length_nil, true_and, false_implies, implies_true, and_self, bne_iff_ne, ne_eq, Bool.and_eq_true, Bool.and_true, Bool.or_true, Bool.false_or, Nat.reduceAdd, Nat.reduceEqDiff, Nat.reduceBEq, Nat.zero_add, Nat.le_refl, not_false_eq_true, List.length_map, r_ofRow_take, encT_len, lookT_here, lookT_next, lookO_here, lookO_next, List.not_mem_nil, implies_true, r_all_noRef, uf40, uf40r21, uf40b22, uf40r23, uf40b24, uf40r25, uf40b26]
  refine call_s (s32 t) ?_
  simp only [pairV, q_wpLs_eq_1, q_wpLs_eq_2, q_wpL_eq_1, q_exL_eq_1, q_exL_eq_27, q_look_eq_1, q_look_eq_2, q_insT_eq_1, q_awl_eq_2, q_awl_eq_5, q_awl_eq_7, q_AE_thenL_eq_1, q_putK_eq_1, q_vExtr_eq_1, q_List_getElemQ_cons_zero, q_List_getElemQ_cons_succ, true_and, Nat.reduceBEq, lookT_here, lookT_next, uf40b17, uf40r18, uf40b19, uf40b20]
  rw [uf40l16]
  refine awl_loop (fun i : Nat => [(1, lst 2 (cells.map encCell)), (2, .k (.ptr 2 0)), (5, .k (.own 10)), (7, .int .i64 (checkT t).2), (8, .int .i64 i)])
    (fun i => [(2, .var 41 ((encT t).map .c)), (10, .arr 3 1 (some false) (ints ((upto i).filter fun v => hasI (runN t cells) v)))]) (fun i => i ≤ 20 ∧ ((checkT t).2 ≠ 0 → i = 0)) (fun i => 20 - i) 0 rfl rfl ⟨Nat.zero_le _, fun _ => rfl⟩ ?_
  rintro i ⟨hi, h0⟩
  by_cases he : (checkT t).2 = 0
  · obtain ⟨hc, _, _⟩ := sz_of_check he
    by_cases hlt : i < 20
    · have c1 : (i : Int) < 20 := by omega
      have c4 : IntKind.i64.wrap ((i : Int) + 1) = (i : Int) + 1 := wrap_in (by omega) (by omega)
      simp only [he, c1, c4, q_wpLs_eq_1, q_wpLs_eq_2, q_wpL_eq_1, q_AOp_dst_eq_1, q_AOp_dst_eq_10, q_exL_eq_1, q_exL_eq_3, q_exL_eq_8, q_exL_eq_11, q_exL_eq_28, q_look_eq_1, q_look_eq_2, q_insT_eq_1, q_awl_eq_1, q_awl_eq_2, q_awl_eq_5, q_awl_eq_6, q_awl_eq_7, q_AE_thenL_eq_1, q_putK_eq_1, q_vBin_eq_1, q_resV_eq_1, q_binV_eq_1, q_binInt_eq_3, q_cutInt_eq_6, q_cutInt_eq_8, q_loadO_eq_1, q_isV_eq_1, q_vLoad_eq_1, q_vPick_eq_1, q_Bool_not_true, q_List_map_cons, q_List_map_nil, q_List_drop_zero, true_and, and_true, if_true, false_implies, ne_eq, BEq.rfl, Nat.reduceBEq, Nat.zero_add, Nat.le_refl, q_learn_eq_1, not_true_eq_false, q_guardP_eq_1, q_condK_eq_1, q_condB_eq_1, q_exK_eq_1, decide_true, List.length_map, r_ofRow_take, encT_len, lookT_here, lookT_next, lookO_here, uf40r3, uf40r8, uf40b9, uf40b10, uf40b11, uf40b12, uf40r13, uf40b14, uf40b15]
      refine call_s (s66 t _ (wt_of t hc) cells i) ?_
      have hu := upto_filter (fun v => hasI (runN t cells) v) i
      have hle := filter_le (fun v => hasI (runN t cells) v) i
      cases h : hasI (runN t cells) i
      · rw [if_neg (by simp [h])] at hu
        simp only [h, c4, q_wpLs_eq_1, q_wpLs_eq_2, q_wpL_eq_1, q_exL_eq_1, q_exL_eq_11, q_look_eq_1, q_look_eq_2, q_insT_eq_1, q_awl_eq_1, q_awl_eq_2, q_awl_eq_5, q_awl_eq_6, q_AE_thenL_eq_1, q_AE_inBlockL_eq_1, q_putK_eq_1, q_vBin_eq_1, q_resV_eq_1, q_binV_eq_1, q_binInt_eq_3, q_cutInt_eq_1, true_and, if_true, Nat.reduceBEq, q_learn_eq_1, q_condK_eq_1, q_condB_eq_2, lookT_here, lookT_next, uf40r4, uf40b5, uf40r6, uf40b7]
        exact Next.intro (i + 1) rfl (by rw [hu]; rfl) (by omega) (by omega)
      · rw [if_pos h] at hu
        simp only [h, c4, q_wpLs_eq_1, q_wpLs_eq_2, q_wpL_eq_1, q_exL_eq_1, q_exL_eq_7, q_exL_eq_11, q_exL_eq_33, q_look_eq_1, q_look_eq_2, q_insT_eq_1, q_insO_eq_1, q_awl_eq_2, q_awl_eq_5, q_awl_eq_6, q_AE_thenL_eq_1, q_AE_inBlockL_eq_1, q_putK_eq_1, q_vBin_eq_1, q_resV_eq_1, q_binV_eq_1, q_binInt_eq_3, q_cutInt_eq_1, q_nlApp_eq_2, q_vRow_eq_1, q_vLits_eq_1, q_vLits_eq_2, q_bsK_eq_1, q_srcO_eq_1, q_srcV_eq_2, q_appK_eq_1, q_appendK_eq_1, q_mapT_eq_1, q_mapT_eq_2, q_mapO_eq_1, q_mapO_eq_2, q_delO_eq_1, q_delO_eq_2, q_freeB_eq_1, q_freeT_eq_1, q_freeT_eq_2, q_freeO_eq_1, q_freeO_eq_2, q_V_noRef_eq_1, q_V_noRef_eq_2, q_K_noRef_eq_1, q_K_noRef_eq_2, q_K_noRef_eq_3, q_O_noRef_eq_1, q_O_noRef_eq_2, q_V_scrub_eq_1, q_V_scrub_eq_3, q_K_scrub_eq_1, q_K_scrub_eq_2, q_K_scrub_eq_5, q_O_scrub_eq_1, q_O_scrub_eq_2, q_List_map_cons, q_List_map_nil, q_List_foldl_cons, q_List_foldl_nil, q_List_replicate_succ, q_List_replicate_zero, q_List_set_cons_zero, q_List_length_cons, q_List_length_nil, true_and, if_true, if_false, forall_eq, or_false, and_self, bne_iff_ne, ne_eq, Bool.and_eq_true, Bool.and_true, Bool.true_and, Bool.or_true, Bool.false_or, List.mem_cons, Nat.reduceEqDiff, Nat.reduceLeDiff, Nat.reduceLT, Nat.reduceBEq, Nat.zero_add, q_learn_eq_1, not_false_eq_true, q_condK_eq_1, q_condB_eq_1, ints_len, lookT_here, lookT_next, lookO_here, lookO_next, List.not_mem_nil, r_all_noRef, r_map_scrub, uf40r4, uf40b5, uf40r6, uf40b7]
        refine ⟨by omega, by omega, Next.intro (i + 1) rfl (by rw [hu, ints_snoc]; rfl) (by omega) (by omega)⟩
    · have c1 : ¬ (i : Int) < 20 := by omega
      obtain rfl : i = 20 := by omega
      simp only [c1, q_wpLs_eq_1, q_wpLs_eq_2, q_wpL_eq_1, q_putDL_eq_1, q_AOp_dst_eq_1, q_AOp_dst_eq_10, q_exL_eq_1, q_exL_eq_3, q_exL_eq_11, q_look_eq_1, q_look_eq_2, q_insT_eq_1, q_awl_eq_2, q_awl_eq_5, q_awl_eq_6, q_awl_eq_9, q_awl_eq_10, q_AE_thenL_eq_1, q_AE_thenL_eq_2, q_AE_inBlockL_eq_2, q_putK_eq_1, q_vBin_eq_1, q_resV_eq_1, q_binV_eq_1, q_binInt_eq_3, q_cutInt_eq_8, q_vPick_eq_3, q_isArrO_eq_1, q_mapT_eq_1, q_mapT_eq_2, q_mapO_eq_1, q_mapO_eq_2, q_endK_eq_2, q_endL_eq_1, q_endV_eq_1, q_resL_eq_1, q_resL_eq_2, q_resX_eq_1, q_one_eq_1, q_V_nrm_eq_1, q_V_nrm_eq_5, q_K_nrm_eq_1, q_K_nrm_eq_3, q_O_nrm_eq_1, q_O_nrm_eq_2, q_V_owns_eq_1, q_K_owns_eq_1, q_V_toNew_eq_1, q_K_toNew_eq_2, q_C_norm_eq_4, q_C_norm_eq_5, q_Bool_not_true, true_and, if_true, and_self, ne_eq, List.nodup_nil, List.nodup_cons, Nat.reduceBEq, q_learn_eq_1, not_false_eq_true, q_guardP_eq_1, q_condK_eq_1, q_condB_eq_2, decide_false, norm_lst, normRows_Ce, normRows_ints, encT_norm, lookT_here, lookT_next, Int.reduceLT, Int.cast_ofNat_Int, lookO_here, lookO_next, List.not_mem_nil, r_map_nrm, uf40r1, uf40b2, uf40b12, uf40r13, uf40b14, uf40b15]
      rw [reachT, if_neg (by simp [he])] at hS
      exact hS
  · obtain rfl := h0 he
    simp only [he, q_wpLs_eq_1, q_wpLs_eq_2, q_wpL_eq_1, q_AOp_dst_eq_1, q_AOp_dst_eq_10, q_exL_eq_1, q_exL_eq_3, q_exL_eq_8, q_exL_eq_11, q_exL_eq_28, q_look_eq_1, q_look_eq_2, q_insT_eq_1, q_awl_eq_1, q_awl_eq_2, q_awl_eq_5, q_awl_eq_6, q_awl_eq_7, q_awl_eq_9, q_awl_eq_10, q_AE_thenL_eq_1, q_AE_thenL_eq_2, q_AE_inBlockL_eq_2, q_putK_eq_1, q_vBin_eq_1, q_resV_eq_1, q_binV_eq_1, q_binInt_eq_3, q_cutInt_eq_6, q_cutInt_eq_8, q_loadO_eq_1, q_isV_eq_1, q_vLoad_eq_1, q_vPick_eq_1, q_isArrO_eq_1, q_mapT_eq_1, q_mapT_eq_2, q_mapO_eq_1, q_mapO_eq_2, q_endK_eq_2, q_endL_eq_1, q_endV_eq_1, q_resL_eq_1, q_resL_eq_2, q_resX_eq_1, q_one_eq_1, q_V_nrm_eq_1, q_K_nrm_eq_1, q_K_nrm_eq_3, q_O_nrm_eq_1, q_O_nrm_eq_2, q_V_owns_eq_1, q_K_owns_eq_1, q_V_toNew_eq_1, q_K_toNew_eq_2, q_C_norm_eq_4, q_C_norm_eq_5, q_Bool_not_true, q_List_map_cons, q_List_map_nil, q_List_drop_zero, true_and, if_true, false_implies, forall_const, and_self, ne_eq, List.nodup_nil, List.nodup_cons, Nat.reduceBEq, Nat.zero_add, Nat.le_refl, q_learn_eq_1, not_false_eq_true, q_guardP_eq_1, q_condK_eq_1, q_condB_eq_1, q_exK_eq_1, condB_beq, decide_true, norm_lst, normRows_Ce, normRows_ints, encT_norm, List.length_map, r_ofRow_take, encT_len, lookT_here, lookT_next, Int.reduceLT, Int.cast_ofNat_Int, lookO_here, lookO_next, List.not_mem_nil, r_map_nrm, uf40r1, uf40b2, uf40r3, uf40r8, uf40b9, uf40b10, uf40b11, uf40b12, uf40r13, uf40b14, uf40b15]
    rw [reachT, if_pos he] at hS
    exact hS
theorem reach_eq {t : Term} {k : Int} (h : WT t k) (cells : List Cell) : Lib.compact (sortI (runN t cells)) = (upto 20).filter fun v => hasI (runN t cells) v := by
  refine cs_eq fun x => ?_
  rw [mem_hasI]
  constructor
  · intro hx
    have := runN_mem h cells x hx
    exact ⟨by omega, hx⟩
  · exact fun hx => hx.2
end Go.Abs


set_option maxRecDepth 100000
set_option maxHeartbeats 4000000
namespace Go.Abs
open Go.Proofs
theorem s54 (op : Int) (l : List Term) : Spec Try.prog 54 [.int .i64 op, lst 3 (l.map encT)] (fun r => r = .agg (encT (.mk op 0 l))) := by
  refine Spec.of_awlS hf54 okf54 (by simp) fun S hS => ?_
  simp only [q_wpLs_eq_1, q_wpLs_eq_2, q_wpL_eq_1, q_exL_eq_1, q_exL_eq_4, q_exL_eq_6, q_exL_eq_9, q_look_eq_1, q_insT_eq_1, q_insO_eq_1, q_awl_eq_2, q_awl_eq_5, q_awl_eq_10, q_AE_thenL_eq_1, q_initT_eq_1, q_initT_eq_2, q_putK_eq_1, q_vBuild_eq_1, q_vBuild_eq_2, q_rowV_eq_1, q_ofRow_eq_2, q_pureRow_eq_1, q_pureRow_eq_2, q_V_cells_eq_1, q_V_cells_eq_2, q_splice_eq_1, q_stVarK_eq_1, q_storeK_eq_1, q_mapT_eq_1, q_mapT_eq_2, q_mapO_eq_1, q_mapO_eq_2, q_freeB_eq_1, q_freeT_eq_1, q_freeT_eq_2, q_freeO_eq_1, q_V_noRef_eq_1, q_K_noRef_eq_1, q_endK_eq_2, q_endL_eq_1, q_endV_eq_1, q_resL_eq_1, q_resL_eq_2, q_resX_eq_2, q_resCell_eq_1, q_one_eq_1, q_V_nrm_eq_1, q_V_nrm_eq_2, q_K_nrm_eq_1, q_K_nrm_eq_3, q_O_nrm_eq_1, q_V_owns_eq_4, q_V_toNew_eq_2, q_C_norm_eq_1, q_C_norm_eq_4, q_C_normRow_eq_1, q_C_normRow_eq_2, q_C_normRows_eq_1, q_Option_map_some, q_List_map_cons, q_List_map_nil, q_List_take_succ_cons, q_List_take_zero, q_List_drop_succ_cons, q_List_drop_zero, q_List_nil_append, q_List_cons_append, q_List_length_cons, q_List_length_nil, q_List_isEmpty_nil, true_and, if_true, and_self, Bool.and_true, Bool.or_true, List.append_nil, List.nodup_nil, Nat.reduceAdd, Nat.reduceLeDiff, Nat.reduceLT, Nat.reduceBEq, Nat.zero_add, Nat.le_refl, norm_lst, normRows_T, lookT_here, lookT_next, lookO_here, uf54, uf54r1, uf54b2, uf54r3, uf54b4]
  exact fin hS (by rw [encT_eq]; rfl)
theorem s55 (n : Int) : Spec Try.prog 55 [.int .i64 n] (fun r => r = .agg (encT (.mk 2 n []))) := by
  refine Spec.of_awlS hf55 okf55 (by simp) fun S hS => ?_
  simp only [q_wpLs_eq_1, q_wpLs_eq_2, q_wpL_eq_1, q_exL_eq_1, q_exL_eq_4, q_exL_eq_6, q_exL_eq_9, q_look_eq_1, q_look_eq_2, q_insT_eq_1, q_insO_eq_1, q_awl_eq_2, q_awl_eq_5, q_awl_eq_10, q_AE_thenL_eq_1, q_initT_eq_1, q_initT_eq_2, q_putK_eq_1, q_vBuild_eq_1, q_vBuild_eq_2, q_rowV_eq_1, q_ofRow_eq_2, q_pureRow_eq_1, q_pureRow_eq_2, q_V_cells_eq_1, q_V_cells_eq_2, q_splice_eq_1, q_stVarK_eq_1, q_storeK_eq_1, q_mapT_eq_1, q_mapT_eq_2, q_mapO_eq_1, q_mapO_eq_2, q_freeB_eq_1, q_freeT_eq_1, q_freeT_eq_2, q_freeO_eq_1, q_V_noRef_eq_1, q_K_noRef_eq_1, q_endK_eq_2, q_endL_eq_1, q_endV_eq_1, q_resL_eq_1, q_resL_eq_2, q_resX_eq_2, q_resCell_eq_1, q_one_eq_1, q_V_nrm_eq_1, q_V_nrm_eq_2, q_K_nrm_eq_1, q_K_nrm_eq_3, q_O_nrm_eq_1, q_V_owns_eq_4, q_V_toNew_eq_2, q_C_norm_eq_1, q_C_norm_eq_4, q_C_normRow_eq_1, q_C_normRow_eq_2, q_C_normRows_eq_1, q_Option_map_some, q_List_map_cons, q_List_map_nil, q_List_take_succ_cons, q_List_take_zero, q_List_drop_succ_cons, q_List_drop_zero, q_List_nil_append, q_List_cons_append, q_List_length_cons, q_List_length_nil, q_List_isEmpty_nil, true_and, if_true, and_self, Bool.and_true, Bool.or_true, List.append_nil, List.nodup_nil, Nat.reduceAdd, Nat.reduceLeDiff, Nat.reduceLT, Nat.reduceBEq, Nat.zero_add, Nat.le_refl, lookT_here, lookT_next, lookO_here, uf55, uf55r1, uf55b2, uf55r3, uf55b4]
  exact fin hS (by rw [encT_eq]; rfl)
theorem s56 (n : Int) : Spec Try.prog 56 [.int .i64 n] (fun r => r = .agg (encT (.mk 0 n []))) := by
  refine Spec.of_awlS hf56 okf56 (by simp) fun S hS => ?_
  simp only [q_wpLs_eq_1, q_wpLs_eq_2, q_wpL_eq_1, q_exL_eq_1, q_exL_eq_4, q_exL_eq_6, q_exL_eq_9, q_look_eq_1, q_insT_eq_1, q_insO_eq_1, q_awl_eq_2, q_awl_eq_5, q_awl_eq_10, q_AE_thenL_eq_1, q_initT_eq_1, q_initT_eq_2, q_putK_eq_1, q_vBuild_eq_1, q_vBuild_eq_2, q_rowV_eq_1, q_ofRow_eq_2, q_pureRow_eq_1, q_pureRow_eq_2, q_V_cells_eq_1, q_V_cells_eq_2, q_splice_eq_1, q_stVarK_eq_1, q_storeK_eq_1, q_mapT_eq_1, q_mapT_eq_2, q_mapO_eq_1, q_mapO_eq_2, q_freeB_eq_1, q_freeT_eq_1, q_freeT_eq_2, q_freeO_eq_1, q_V_noRef_eq_1, q_K_noRef_eq_1, q_endK_eq_2, q_endL_eq_1, q_endV_eq_1, q_resL_eq_1, q_resL_eq_2, q_resX_eq_2, q_resCell_eq_1, q_one_eq_1, q_V_nrm_eq_1, q_V_nrm_eq_2, q_K_nrm_eq_1, q_K_nrm_eq_3, q_O_nrm_eq_1, q_V_owns_eq_4, q_V_toNew_eq_2, q_C_norm_eq_1, q_C_norm_eq_4, q_C_normRow_eq_1, q_C_normRow_eq_2, q_C_normRows_eq_1, q_Option_map_some, q_List_map_cons, q_List_map_nil, q_List_take_succ_cons, q_List_take_zero, q_List_drop_succ_cons, q_List_drop_zero, q_List_nil_append, q_List_cons_append, q_List_length_cons, q_List_length_nil, q_List_isEmpty_nil, true_and, if_true, and_self, Bool.and_true, Bool.or_true, List.append_nil, List.nodup_nil, Nat.reduceAdd, Nat.reduceLeDiff, Nat.reduceLT, Nat.reduceBEq, Nat.zero_add, Nat.le_refl, lookT_here, lookT_next, lookO_here, uf56, uf56r1, uf56b2, uf56r3, uf56b4]
  exact fin hS (by rw [encT_eq]; rfl)
def oneK (k : Nat) (x : Int) : List Cell := (List.replicate 20 (⟨false, 0⟩ : Cell)).set k ⟨true, x⟩
theorem s57 (k : Nat) (x : Int) (hk : k < 20) : Spec Try.prog 57 [.int .i64 k, .int .i64 x] (fun r => r = .k (.newl 53 2 none ((oneK k x).map encCell))) := by
  refine Spec.of_awlS hf57 okf57 (by simp) fun S hS => ?_
  have h1 : (0 : Int) ≤ k := by omega
  have h2 : (k : Int) < 20 := by omega
  simp only [h1, h2, q_wpLs_eq_1, q_wpLs_eq_2, q_wpL_eq_1, q_exL_eq_1, q_exL_eq_2, q_exL_eq_6, q_exL_eq_9, q_exL_eq_18, q_exL_eq_23, q_look_eq_1, q_look_eq_2, q_insT_eq_1, q_insO_eq_1, q_awl_eq_2, q_awl_eq_5, q_awl_eq_10, q_AE_thenL_eq_1, q_initT_eq_1, q_initT_eq_2, q_putK_eq_1, q_vIaddr_eq_2, q_idxO_eq_1, q_vBuild_eq_1, q_vBuild_eq_2, q_rowV_eq_1, q_ofRow_eq_2, q_pureRow_eq_1, q_pureRow_eq_2, q_V_cells_eq_1, q_splice_eq_1, q_isArrO_eq_1, q_vRow_eq_2, q_stArrK_eq_1, q_storeK_eq_2, q_mkslK_eq_1, q_mapT_eq_1, q_mapT_eq_2, q_mapO_eq_1, q_mapO_eq_2, q_freeB_eq_1, q_freeT_eq_1, q_freeT_eq_2, q_freeO_eq_1, q_freeO_eq_2, q_V_noRef_eq_1, q_K_noRef_eq_1, q_K_noRef_eq_2, q_O_noRef_eq_2, q_endK_eq_2, q_endL_eq_1, q_endV_eq_1, q_resL_eq_1, q_resL_eq_2, q_resX_eq_1, q_one_eq_1, q_V_nrm_eq_1, q_V_nrm_eq_2, q_K_nrm_eq_1, q_K_nrm_eq_3, q_O_nrm_eq_2, q_V_owns_eq_1, q_K_owns_eq_1, q_V_toNew_eq_1, q_K_toNew_eq_2, q_C_norm_eq_4, q_C_norm_eq_5, q_C_normRow_eq_1, q_C_normRow_eq_2, q_C_normRows_eq_1, q_C_normRows_eq_2, q_Option_map_some, q_List_map_cons, q_List_map_nil, q_List_take_succ_cons, q_List_take_zero, q_List_drop_succ_cons, q_List_drop_zero, q_List_nil_append, q_List_cons_append, q_List_replicate_succ, q_List_replicate_zero, q_List_length_cons, q_List_length_nil, true_and, if_true, and_self, bne_iff_ne, ne_eq, Bool.and_true, Bool.or_true, Bool.false_or, List.append_nil, List.nodup_nil, List.nodup_cons, Nat.reduceAdd, Nat.reduceEqDiff, Nat.reduceLeDiff, Nat.reduceBEq, Nat.zero_add, Int.toNat_natCast, Nat.le_refl, not_false_eq_true, lookT_here, lookT_next, Int.reduceLE, Int.reduceToNat, Int.cast_ofNat_Int, lookO_here, List.not_mem_nil, uf57, uf57r1, uf57b2, uf57r3, uf57b4, uf57r5, uf57b6, uf57r7, uf57b8]
  refine ⟨by decide, fin hS ?_⟩
  rw [show (List.map encCell (oneK k x)) = C.normRows (List.map encCell (oneK k x)) from (normRows_Ce _).symm, oneK, List.map_set]
  rfl
@[simp] theorem normRow_encB (b : Bool) : C.normRow (encB b) = encB b := rfl
@[simp] theorem normRows_B (l : List Bool) : C.normRows (l.map encB) = l.map encB := normRows_eq normRow_encB l
end Go.Abs


set_option maxRecDepth 100000
set_option maxHeartbeats 4000000
namespace Go.Abs
open Go.Proofs
theorem thaw49 : ThawSort Try.prog 49 := fun _ _ _ _ _ _ _ _ hk hz hp hl => thaw_sort Try.laysSort hk hz hp hl
theorem thaw50 : ThawComp Try.prog 50 := fun _ _ _ _ _ _ _ _ hk hz hp => thaw_compact Try.laysCompact hk hz hp
theorem nosz_lst {α : Type} {f : α → List C} {n sz : Nat} (h0 : n ≠ 0) (hs : sz ≠ n) (l : List α) (hf : ∀ x, x ∈ l → ∀ c, c ∈ f x → NoSz n c) : NoSz n (lstC sz (l.map f)) := by
  refine .list _ _ _ ?_ fun r hr c hc => ?_
  · split
    · exact fun e => h0 e.symm
    · exact hs
  · obtain ⟨x, hx, rfl⟩ := List.mem_map.1 hr
    exact hf x hx c hc
theorem nosz_term : ∀ (t : Term), ∀ c, c ∈ encT t → NoSz 1 c := by
  refine Term.ind fun o n a ih => ?_
  intro c hc
  rw [encT_eq] at hc
  simp only [List.mem_cons, List.mem_nil_iff, or_false] at hc
  rcases hc with rfl | rfl | rfl
  · exact .int _ _
  · exact .int _ _
  · exact nosz_lst (by simp) (by simp) _ ih
theorem s39 (t : Term) (cells : List Cell) : Spec Try.prog 39 [.agg (encT t), lst 2 (cells.map encCell)] (fun r => r = lst 1 (ints (reachT t cells))) := by
  refine (Spec.plain (S := fun r => r.fz.nrm = lst 1 (ints (reachT t cells))) ?_).mono (by rintro r' ⟨r, h, rfl⟩; exact h)
  refine Spec.of_thaw (q1 := .region f39r15) (q2 := f39b13) (q3 := .region f39r5) (n := 27) (d1 := 23) (d2 := 24) (e1 := 25) (e2 := 26) (s := 8) (r := 4) (g1 := 49) (g2 := 50) hf39 (by kernel_rfl) (by simp) ⟨by simp, by simp⟩ ?_ (callable_at (by kernel_rfl)) (callable_at (by kernel_rfl)) thaw49 thaw50 (awq_of_mid ?_)
  · intro x hx
    simp only [List.mem_cons, List.mem_nil_iff, or_false] at hx
    rcases hx with rfl | rfl
    · exact nosz_term t
    · exact nosz_lst (by simp) (by simp) _ fun x _ c hc => by
        simp only [encCell, List.mem_cons, List.mem_nil_iff, or_false] at hc
        rcases hc with rfl | rfl
        · exact .bool _
        · exact .int _ _
  obtain ⟨S, hS0⟩ : ∃ S : V → Prop, S = fun r => r.fz.nrm = lst 1 (ints (reachT t cells)) := ⟨_, rfl⟩
  rw [← hS0]
  have hS : ∀ r, r.fz.nrm = lst 1 (ints (reachT t cells)) → S r := fun r h => by rw [hS0]; exact h
  clear hS0
  simp only [encT_eq, q_wpLs_eq_1, q_wpLs_eq_2, q_wpL_eq_1, q_exL_eq_2, q_exL_eq_5, q_exL_eq_8, q_exL_eq_28, q_look_eq_1, q_insT_eq_1, q_insO_eq_1, q_awl_eq_2, q_awl_eq_5, q_AE_thenL_eq_1, q_initT_eq_1, q_initT_eq_2, q_putK_eq_1, q_loadO_eq_1, q_isV_eq_1, q_vLoad_eq_1, q_ofRow_eq_2, q_pureRow_eq_1, q_pureRow_eq_2, q_boxK_eq_1, q_freeB_eq_1, q_freeT_eq_1, q_freeT_eq_2, q_freeO_eq_1, q_freeO_eq_2, q_V_noRef_eq_1, q_V_noRef_eq_2, q_K_noRef_eq_1, q_K_noRef_eq_3, q_O_noRef_eq_1, q_Option_map_some, q_List_map_cons, q_List_map_nil, q_List_take_succ_cons, q_List_take_zero, q_List_drop_zero, q_List_length_cons, q_List_length_nil, q_List_all_cons, q_List_all_nil, true_and, if_true, bne_iff_ne, ne_eq, Bool.and_true, Bool.or_true, Bool.false_or, Nat.reduceAdd, Nat.reduceEqDiff, Nat.reduceBEq, Nat.zero_add, Nat.le_refl, not_false_eq_true, lookT_here, lookT_next, lookO_here, lookO_next, uf39r5, uf39r12, uf39b13, uf39r15]
  refine call_s (s31 t) ?_
  by_cases h : (checkT t).2 = 0
  · obtain ⟨hc, he, hsz⟩ := sz_of_check h
    have hw := wt_of t hc
    rw [reachT, if_neg (by simp [h])] at hS
    simp only [pairV, h, q_wpLs_eq_1, q_wpLs_eq_2, q_wpL_eq_1, q_exL_eq_1, q_exL_eq_6, q_exL_eq_8, q_exL_eq_11, q_exL_eq_27, q_exL_eq_28, q_look_eq_1, q_look_eq_2, q_insT_eq_1, q_awl_eq_1, q_awl_eq_2, q_awl_eq_5, q_awl_eq_6, q_AE_thenL_eq_1, q_putK_eq_1, q_vBin_eq_1, q_resV_eq_1, q_binV_eq_1, q_binInt_eq_3, q_cutInt_eq_7, q_vExtr_eq_1, q_loadO_eq_1, q_isV_eq_1, q_vLoad_eq_1, q_vBuild_eq_1, q_vBuild_eq_2, q_rowV_eq_1, q_ofRow_eq_1, q_ofRow_eq_2, q_pureRow_eq_1, q_pureRow_eq_2, q_V_cells_eq_1, q_splice_eq_1, q_Option_map_some, q_List_map_cons, q_List_map_nil, q_List_take_succ_cons, q_List_take_zero, q_List_drop_succ_cons, q_List_drop_zero, q_List_nil_append, q_List_length_cons, q_List_length_nil, q_List_getElemQ_cons_zero, q_List_getElemQ_cons_succ, true_and, if_true, and_self, List.append_nil, Nat.reduceAdd, Nat.reduceBEq, Nat.zero_add, Nat.le_refl, q_learn_eq_1, q_condK_eq_1, q_condB_eq_2, lookT_here, lookT_next, Int.reduceBNe, lookO_here, lookO_next, uf39b9, uf39r10, uf39b11]
    refine call_r (s64 t _ hw (by omega) cells) ?_
    simp only [runV, encCell, q_wpLs_eq_1, q_wpLs_eq_2, q_wpL_eq_1, q_exL_eq_1, q_exL_eq_4, q_exL_eq_9, q_exL_eq_27, q_look_eq_1, q_insT_eq_1, q_insO_eq_1, q_putK_eq_1, q_vExtr_eq_1, q_V_cells_eq_2, q_splice_eq_1, q_stVarK_eq_1, q_storeK_eq_1, q_freeB_eq_1, q_freeT_eq_1, q_freeT_eq_2, q_freeO_eq_1, q_freeO_eq_2, q_V_noRef_eq_1, q_V_noRef_eq_2, q_V_noRef_eq_4, q_K_noRef_eq_1, q_K_noRef_eq_2, q_K_noRef_eq_3, q_O_noRef_eq_1, q_O_noRef_eq_2, q_V_noRefL_eq_1, q_V_noRefL_eq_2, q_regN_eq_2, q_V_reg_eq_3, q_V_reg_eq_4, q_V_regL_eq_1, q_V_regL_eq_2, q_freesL_eq_1, q_addsL_eq_1, q_regK_eq_1, q_retK_eq_2, q_List_map_cons, q_List_map_nil, q_List_take_zero, q_List_drop_succ_cons, q_List_drop_zero, q_List_nil_append, q_List_length_cons, q_List_length_nil, q_List_getElemQ_cons_zero, q_List_getElemQ_cons_succ, q_List_all_cons, q_List_all_nil, true_and, and_self, bne_iff_ne, ne_eq, Bool.and_eq_true, Bool.and_true, Bool.true_and, Bool.or_true, Bool.false_or, List.append_nil, Nat.reduceAdd, Nat.reduceMul, Nat.reduceEqDiff, Nat.reduceBEq, Nat.zero_add, Nat.add_zero, Nat.le_refl, not_false_eq_true, lookT_here, lookT_next, lookO_here]
    have hlk : ∃ sz, V.k (.c (lstC 1 (ints (runN t cells)))) = .k (.c (.list sz none (intRows (runN t cells)))) ∧ (runN t cells ≠ [] → sz = 1) := by
      refine ⟨_, rfl, fun h0 => ?_⟩
      cases hl : runN t cells with
      | nil => exact absurd hl h0
      | cons a l => rfl
    obtain ⟨sz, hlk, h1⟩ := hlk
    rw [hlk]
    refine ⟨sz, none, runN t cells, rfl, h1, ?_, ?_⟩
    · have := rn_len cells t; omega
    · refine hS _ ?_
      rw [← reach_eq hw cells]
      show V.k (.c (C.list 1 none (intRows (Lib.compact (sortI (runN t cells))))).norm.norm) = _
      simp only [norm_list, norm_lst, intRows_norm]
      rfl
  · rw [reachT, if_pos h] at hS
    simp only [pairV, h, q_wpLs_eq_1, q_wpLs_eq_2, q_wpL_eq_1, q_exL_eq_1, q_exL_eq_2, q_exL_eq_6, q_exL_eq_8, q_exL_eq_11, q_exL_eq_27, q_exL_eq_28, q_look_eq_1, q_look_eq_2, q_insT_eq_1, q_insO_eq_1, q_awl_eq_1, q_awl_eq_2, q_awl_eq_5, q_awl_eq_6, q_awl_eq_10, q_AE_thenL_eq_1, q_AE_thenL_eq_3, q_putK_eq_1, q_vBin_eq_1, q_resV_eq_1, q_binV_eq_1, q_binInt_eq_3, q_cutInt_eq_7, q_vExtr_eq_1, q_loadO_eq_1, q_isV_eq_1, q_vLoad_eq_1, q_vBuild_eq_1, q_vBuild_eq_2, q_rowV_eq_1, q_ofRow_eq_1, q_ofRow_eq_2, q_pureRow_eq_1, q_pureRow_eq_2, q_V_cells_eq_1, q_splice_eq_1, q_freeB_eq_1, q_freeT_eq_1, q_freeT_eq_2, q_freeO_eq_1, q_freeO_eq_2, q_V_noRef_eq_1, q_V_noRef_eq_2, q_V_noRef_eq_4, q_K_noRef_eq_1, q_K_noRef_eq_2, q_K_noRef_eq_3, q_O_noRef_eq_1, q_O_noRef_eq_2, q_V_noRefL_eq_1, q_V_noRefL_eq_2, q_Option_map_some, q_List_map_cons, q_List_map_nil, q_List_take_succ_cons, q_List_take_zero, q_List_drop_succ_cons, q_List_drop_zero, q_List_nil_append, q_List_length_cons, q_List_length_nil, q_List_getElemQ_cons_zero, q_List_getElemQ_cons_succ, q_List_all_cons, q_List_all_nil, true_and, and_true, if_true, false_implies, forall_const, and_self, bne_iff_ne, ne_eq, Bool.and_true, Bool.true_and, Bool.or_true, Bool.true_or, Bool.false_or, BEq.rfl, List.append_nil, Nat.reduceAdd, Nat.reduceEqDiff, Nat.reduceBEq, Nat.zero_add, Nat.le_refl, q_learn_eq_1, not_false_eq_true, q_condK_eq_1, condB_bne, lookT_here, lookT_next, lookO_here, lookO_next, uf39r7, uf39b8, uf39b9, uf39r10, uf39b11]
    show endK [.t 4] S .ret _ _
    simp only [q_isArrO_eq_1, q_mapT_eq_1, q_mapT_eq_2, q_mapO_eq_1, q_mapO_eq_2, q_endK_eq_2, q_endL_eq_1, q_endV_eq_1, q_resL_eq_1, q_resL_eq_2, q_resX_eq_1, q_one_eq_1, q_V_nrm_eq_1, q_V_nrm_eq_2, q_V_nrm_eq_4, q_K_nrm_eq_1, q_K_nrm_eq_3, q_V_nrmL_eq_1, q_V_nrmL_eq_2, q_O_nrm_eq_1, q_O_nrm_eq_2, q_V_owns_eq_1, q_K_owns_eq_1, q_V_toNew_eq_1, q_K_toNew_eq_2, q_C_norm_eq_4, q_C_norm_eq_5, q_C_normRow_eq_1, q_C_normRow_eq_2, q_C_normRows_eq_1, q_List_map_cons, q_List_map_nil, true_and, if_true, and_self, List.nodup_nil, List.nodup_cons, not_false_eq_true, norm_lst, normRows_T, normRows_Ce, lookT_here, lookO_here, List.not_mem_nil]
    exact hS _ rfl
end Go.Abs


set_option maxRecDepth 100000
set_option maxHeartbeats 4000000
namespace Go.Abs
open Go.Proofs
end Go.Abs


set_option maxRecDepth 100000
set_option maxHeartbeats 4000000
namespace Go.Abs
open Go.Proofs
theorem s35' (t : Term) : Spec Try.prog 35 [.agg (encT t)] (fun r => r = .k (.newl 3 1 none (ints (varsT t)))) := by
  have := s35 t
  rw [vars_eq] at this; exact this
end Go.Abs


set_option maxRecDepth 100000
set_option maxHeartbeats 4000000
namespace Go.Abs
open Go.Proofs
end Go.Abs


set_option maxRecDepth 100000
namespace Go.Abs
open Go.Proofs
theorem s22 (a b : List Int) : Spec Try.prog 22 [lst 1 (ints a), lst 1 (ints b)] (fun r => r = .bool (decide (a = b))) := by
  refine Spec.of_len hf22 fun hlen => ?_
  have hla : a.length ≤ 9223372036854775807 := by have := hlen _ (List.mem_cons_self) (lstC 1 (ints a)) (by simp [lst, V.topC]) _ _ _ rfl; simpa [ints] using this
  clear hlen
  refine Spec.of_awl hf22 okf22 (by simp) ?_
  simp only [lst, lstC, ints_len, q_wpLs_eq_1, q_wpLs_eq_2, q_wpL_eq_1, q_exL_eq_1, q_exL_eq_11, q_exL_eq_30, q_look_eq_1, q_look_eq_2, q_lookO_eq_1, q_insT_eq_1, q_awl_eq_1, q_awl_eq_2, q_awl_eq_5, q_awl_eq_6, q_awl_eq_7, q_awl_eq_10, q_AE_thenL_eq_1, q_AE_thenL_eq_3, q_initT_eq_1, q_initT_eq_2, q_putK_eq_1, q_vBin_eq_1, q_resV_eq_1, q_binV_eq_1, q_binInt_eq_3, q_cutInt_eq_7, q_vLen_eq_1, q_mapT_eq_1, q_mapT_eq_2, q_mapO_eq_1, q_endK_eq_2, q_endL_eq_1, q_endV_eq_1, q_resL_eq_1, q_resL_eq_2, q_resX_eq_1, q_one_eq_1, q_V_nrm_eq_1, q_K_nrm_eq_1, q_V_owns_eq_1, q_K_owns_eq_2, q_V_toNew_eq_1, q_K_toNew_eq_1, q_C_norm_eq_1, q_C_norm_eq_4, q_C_norm_eq_5, true_and, if_true, and_self, List.nodup_nil, Nat.reduceAdd, Nat.reduceBEq, Nat.zero_add, q_learn_eq_1, q_condK_eq_1, condB_bne, normRows_ints, ints_len, lookT_here, lookT_next, uf22, uf22b16, uf22r17, uf22b18, uf22b19, uf22r20, uf22b21, uf22b22, uf22r23, uf22b24, uf22b25, uf22r26, uf22b27]
  refine ⟨fun h => ?_, fun h => ?_⟩
  · have : a ≠ b := by rintro rfl; exact h rfl
    simp [this]
  · rw [uf22l15]
    have h : a.length = b.length := by omega
    refine awl_loop (fun i : Nat => [(0, lst 1 (ints a)), (1, lst 1 (ints b)), (5, .int .i64 i)]) (fun _ => []) (fun i => i ≤ a.length ∧ ∀ j < i, a[j]? = b[j]?) (fun i => a.length - i) 0 rfl rfl ⟨Nat.zero_le _, by simp⟩ ?_
    rintro i ⟨hi, hj⟩
    by_cases hlt : i < a.length
    · have hlt2 : i < b.length := by omega
      have c1 : (i : Int) < a.length := by omega
      have c2 : (i : Int) < b.length := by omega
      have hw : IntKind.i64.wrap ((i : Int) + 1) = (i : Int) + 1 := wrap_in (by omega) (by omega)
      simp only [lst, lstC, ints_len, ints_isEmpty, ints_at hlt, ints_at hlt2, sz_of hlt, sz_of hlt2, c1, c2, hw, not_true_eq_false, q_wpLs_eq_1, q_wpLs_eq_2, q_wpLQs_eq_1, q_wpLQs_eq_2, q_wpL_eq_1, q_wpLQ_eq_1, q_exL_eq_1, q_exL_eq_11, q_exL_eq_30, q_exLQ_eq_1, q_exLQ_eq_9, q_exLQ_eq_12, q_exLQ_eq_24, q_look_eq_1, q_look_eq_2, q_lookO_eq_1, q_insT_eq_1, q_awl_eq_1, q_awl_eq_2, q_awl_eq_3, q_awl_eq_5, q_awl_eq_6, q_awl_eq_7, q_awl_eq_10, q_AE_thenL_eq_1, q_AE_thenL_eq_3, q_AE_inBlockL_eq_1, q_AE_inBlockL_eq_3, q_putK_eq_1, q_vBin_eq_1, q_resV_eq_1, q_binV_eq_1, q_binInt_eq_3, q_cutInt_eq_1, q_cutInt_eq_7, q_cutInt_eq_8, q_vLen_eq_1, q_partV_eq_2, q_vLoad_eq_2, q_vIaddr_eq_1, q_mapT_eq_1, q_mapT_eq_2, q_mapO_eq_1, q_endK_eq_2, q_endL_eq_1, q_endV_eq_1, q_resL_eq_1, q_resL_eq_2, q_resX_eq_1, q_one_eq_1, q_V_nrm_eq_1, q_K_nrm_eq_1, q_K_nrm_eq_2, q_V_owns_eq_1, q_K_owns_eq_2, q_V_toNew_eq_1, q_K_toNew_eq_1, q_C_norm_eq_1, q_C_norm_eq_4, q_C_norm_eq_5, q_List_getD_cons_zero, true_and, if_true, and_self, List.nodup_nil, Nat.reduceBEq, Nat.zero_add, Int.toNat_natCast, Nat.le_refl, Int.natCast_nonneg, q_learn_eq_1, q_condK_eq_1, q_condB_eq_1, condB_bne, decide_true, normRows_ints, ints_len, lookT_here, lookT_next, uf22r3, uf22r4, uf22b5, uf22b6, uf22r7, uf22b8, uf22b9, uf22b10, uf22b11, uf22r12, uf22b13, uf22b14]
      refine ⟨fun hne => ?_, fun he => ?_⟩
      · have : a ≠ b := by rintro rfl; exact hne rfl
        simp [this]
      · refine Next.intro (i + 1) rfl rfl ⟨by omega, fun j hjl => ?_⟩ (by omega)
        by_cases hji : j = i
        · subst hji; simp [hlt, hlt2, he]
        · exact hj j (by omega)
    · have c1 : ¬ (i : Int) < a.length := by omega
      simp only [lst, lstC, ints_len, ints_isEmpty, c1, not_true_eq_false, not_false_eq_true, q_wpLs_eq_1, q_wpLs_eq_2, q_wpL_eq_1, q_exL_eq_1, q_exL_eq_11, q_exL_eq_30, q_look_eq_1, q_look_eq_2, q_lookO_eq_1, q_insT_eq_1, q_awl_eq_2, q_awl_eq_5, q_awl_eq_6, q_awl_eq_9, q_awl_eq_10, q_AE_thenL_eq_1, q_AE_thenL_eq_2, q_AE_inBlockL_eq_2, q_putK_eq_1, q_vBin_eq_1, q_resV_eq_1, q_binV_eq_1, q_binInt_eq_3, q_cutInt_eq_8, q_vLen_eq_1, q_mapT_eq_1, q_mapT_eq_2, q_mapO_eq_1, q_endK_eq_2, q_endL_eq_1, q_endV_eq_1, q_resL_eq_1, q_resL_eq_2, q_resX_eq_1, q_one_eq_1, q_V_nrm_eq_1, q_K_nrm_eq_1, q_V_owns_eq_1, q_K_owns_eq_2, q_V_toNew_eq_1, q_K_toNew_eq_1, q_C_norm_eq_1, q_C_norm_eq_4, q_C_norm_eq_5, true_and, if_true, and_self, List.nodup_nil, Nat.reduceBEq, q_learn_eq_1, q_condK_eq_1, q_condB_eq_2, decide_false, normRows_ints, ints_len, lookT_here, lookT_next, uf22r1, uf22b2, uf22b11, uf22r12, uf22b13, uf22b14]
      have : a = b := by
        refine List.ext_getElem? fun j => ?_
        by_cases hjl : j < i
        · exact hj j hjl
        · rw [List.getElem?_eq_none (by omega), List.getElem?_eq_none (by omega)]
      simp [this]
end Go.Abs


set_option maxRecDepth 100000
set_option maxHeartbeats 4000000
namespace Go.Abs
open Go.Proofs
def oA : Order := ⟨[], false, [], [⟨0, .mk 2 7 []⟩, ⟨6, .mk 0 3 []⟩]⟩
def oB : Order := ⟨[], false, [], [⟨0, .mk 2 15 []⟩]⟩
def oC : Order := ⟨[], false, [], [⟨0, .mk 0 3 []⟩]⟩
theorem p1 : ordersO [oA, oC, oB] 0 = (1, 11) := by decide
theorem p2 : ordersO [oA, oB] 0 = (-1, 0) := by decide
theorem s22' (l : List Int) : Spec Try.prog 22 [lst 1 (ints l), lst 1 (ints l)] (fun r => r = .bool true) := by
  have := s22 l l
  simpa using this
end Go.Abs


set_option maxRecDepth 100000
set_option maxHeartbeats 4000000
namespace Go.Abs
open Go.Proofs
def tBoth : Term := .mk 4 0 [.mk 2 15 [], .mk 2 18 []]
def tThree : Term := .mk 6 0 [.mk 2 17 [], .mk 0 3 [], .mk 0 3 []]
def tSum : Term := .mk 6 0 [.mk 2 17 [], .mk 2 0 [], .mk 0 3 []]
def tSquare : Term := .mk 11 0 [.mk 2 0 [], .mk 2 0 []]
def tNot : Term := .mk 3 0 [.mk 0 1 []]
theorem call_lit {P : Program} {f : FuncId} {xs : List AX} {vs : List V} {K : KK} {d : Nat} {ts : TS} {os : OS} {args : List V} {r : V} {X : Prop} (τ : Nat) (hs : Spec P f args (fun r' => r' = r)) (hk : retK r K (frzT τ ts os (lookO τ os)) (frzO τ os (lookO τ os)) (some d))
    (h0 : vs = xs.map (look ts) := by simp [look, lookT]) (hp : vs.all (fun v => (lendL os v).isPure) = true := by simp [lendL, lendO, lookO, V.isPure])
    (ha : vs.map (fun v => (lendL os v).norm) = args := by rfl) (h4 : vs.flatMap V.toks = [τ] := by simp [V.toks, Abs.K.toks]) (h5 : plainO (lookO τ os) := by simp [lookO, plainO]) (hr : r.scalar = false := by rfl) : X ∨ callSF P f vs xs K (some d) ts os :=
  call_o τ h0 hs hp ha h4 h5 hr hk
theorem q1 : checkT tBoth = (1, 0) := by decide
theorem q2 : checkT tNot = (0, 11) := by decide
theorem q3 : evalT tBoth (oneK 15 0) = ⟨true, 0⟩ := by kernel_rfl
theorem q4 : evalT tBoth (oneK 15 1) = ⟨false, 0⟩ := by kernel_rfl
theorem q5 : evalT tThree [] = ⟨true, 3⟩ := by kernel_rfl
theorem q6 : evalT tSum (oneK 17 1) = ⟨false, 0⟩ := by kernel_rfl
theorem q7 : reachT tBoth (oneK 15 1) = [18] := by decide
theorem q8 : reachT tSum (oneK 17 1) = [0] := by decide
theorem q9 : evalT tSquare (oneK 0 1099511627776) = ⟨true, 1099511627776⟩ := by kernel_rfl
theorem q10 : varsT tSum = [0, 17] := by decide
theorem s29 : Spec Try.prog 29 [] (fun r => r = .bool true) := by
  have c1 := s31 tBoth
  rw [q1] at c1
  have c2 := s31 tNot
  rw [q2] at c2
  have c3 := s37 tBoth (oneK 15 0)
  rw [q3] at c3
  have c4 := s37 tBoth (oneK 15 1)
  rw [q4] at c4
  have c5 := s37 tThree []
  rw [q5] at c5
  have c6 := s37 tSum (oneK 17 1)
  rw [q6] at c6
  have c7 := s39 tBoth (oneK 15 1)
  rw [q7] at c7
  have c8 := s39 tSum (oneK 17 1)
  rw [q8] at c8
  have c9 := s37 tSquare (oneK 0 1099511627776)
  rw [q9] at c9
  have c10 := s35' tSum
  rw [q10] at c10
  refine Spec.of_awlS hf29 okf29 (by simp) fun S hS => ?_
  simp only [pairV, encCV, encCell, q_wpLs_eq_1, q_wpLs_eq_2, q_wpL_eq_1, q_exL_eq_1, q_exL_eq_28, q_look_eq_2, q_insT_eq_1, q_awl_eq_2, q_awl_eq_5, q_AE_thenL_eq_1, q_initT_eq_1, q_List_map_cons, q_List_map_nil, uf29, uf29r31, uf29b32, uf29r33, uf29b34]
  refine call_r (s55 15) ?_
  simp only [pairV, encCV, encCell, q_wpLs_eq_2, q_wpL_eq_1, q_exL_eq_28, q_look_eq_2, q_insT_eq_1, q_regN_eq_2, q_V_reg_eq_4, q_freesL_eq_1, q_addsL_eq_1, q_regK_eq_1, q_retK_eq_2, q_List_map_cons, q_List_map_nil, q_List_length_nil, true_and, Nat.reduceAdd, Nat.reduceMul]
  refine call_r (s55 18) ?_
  simp only [pairV, encCV, encCell, q_wpLs_eq_2, q_wpL_eq_1, q_exL_eq_7, q_exL_eq_28, q_look_eq_1, q_look_eq_2, q_insT_eq_1, q_insO_eq_1, q_vRow_eq_2, q_vLits_eq_1, q_vLits_eq_2, q_bsK_eq_1, q_freeB_eq_1, q_freeT_eq_1, q_freeT_eq_2, q_freeO_eq_1, q_V_noRef_eq_1, q_V_noRef_eq_2, q_K_noRef_eq_1, q_regN_eq_2, q_V_reg_eq_4, q_freesL_eq_1, q_addsL_eq_1, q_regK_eq_1, q_retK_eq_2, q_List_map_cons, q_List_map_nil, q_List_foldl_cons, q_List_foldl_nil, q_List_replicate_succ, q_List_replicate_zero, q_List_set_cons_zero, q_List_set_cons_succ, q_List_length_cons, q_List_length_nil, true_and, forall_eq_or_imp, forall_eq, or_false, and_self, Bool.and_true, Bool.or_true, List.mem_cons, Nat.reduceAdd, Nat.reduceMul, Nat.reduceLT, Nat.reduceBEq, Nat.zero_add, encT_len, lookT_here, lookT_next, List.not_mem_nil]
  refine call_lit 11 (s54 4 [.mk 2 15 [], .mk 2 18 []]) ?_
  simp only [pairV, encCV, encCell, q_wpLs_eq_1, q_wpLs_eq_2, q_wpL_eq_1, q_exL_eq_4, q_exL_eq_9, q_exL_eq_28, q_look_eq_1, q_look_eq_2, q_insT_eq_1, q_insO_eq_1, q_awl_eq_2, q_awl_eq_5, q_AE_thenL_eq_1, q_V_cells_eq_2, q_splice_eq_1, q_stVarK_eq_1, q_storeK_eq_1, q_mapT_eq_1, q_mapT_eq_2, q_mapO_eq_1, q_delO_eq_1, q_delO_eq_2, q_freeB_eq_1, q_freeT_eq_1, q_freeT_eq_2, q_freeO_eq_1, q_V_noRef_eq_1, q_V_noRef_eq_2, q_K_noRef_eq_1, q_regN_eq_2, q_V_reg_eq_4, q_freesL_eq_1, q_addsL_eq_1, q_regK_eq_1, q_retK_eq_2, q_List_map_cons, q_List_map_nil, q_List_take_zero, q_List_drop_succ_cons, q_List_drop_zero, q_List_nil_append, q_List_length_cons, q_List_length_nil, true_and, if_true, Bool.and_true, Bool.or_true, List.append_nil, Nat.reduceAdd, Nat.reduceMul, Nat.reduceBEq, Nat.zero_add, Nat.le_refl, List.length_map, encT_len, lookT_here, lookT_next, lookO_here, z_V_k, z_V_agg, z_K_c, z_frzT, z_frzO, z_K_own_arr, uf29r29, uf29b30]
  refine call_r (s55 17) ?_
  simp only [pairV, encCV, encCell, q_wpLs_eq_2, q_wpL_eq_1, q_exL_eq_28, q_look_eq_2, q_insT_eq_1, q_regN_eq_2, q_V_reg_eq_4, q_freesL_eq_1, q_addsL_eq_1, q_regK_eq_1, q_retK_eq_2, q_List_map_cons, q_List_map_nil, q_List_length_nil, true_and, Nat.reduceAdd, Nat.reduceMul]
  refine call_r (s56 3) ?_
  simp only [pairV, encCV, encCell, q_wpLs_eq_2, q_wpL_eq_1, q_exL_eq_28, q_look_eq_2, q_insT_eq_1, q_regN_eq_2, q_V_reg_eq_4, q_freesL_eq_1, q_addsL_eq_1, q_regK_eq_1, q_retK_eq_2, q_List_map_cons, q_List_map_nil, q_List_length_nil, true_and, Nat.reduceAdd, Nat.reduceMul]
  refine call_r (s56 3) ?_
  simp only [pairV, encCV, encCell, q_wpLs_eq_2, q_wpL_eq_1, q_exL_eq_7, q_exL_eq_28, q_look_eq_1, q_look_eq_2, q_insT_eq_1, q_insO_eq_1, q_vRow_eq_2, q_vLits_eq_1, q_vLits_eq_2, q_bsK_eq_1, q_freeB_eq_1, q_freeT_eq_1, q_freeT_eq_2, q_freeO_eq_1, q_freeO_eq_2, q_V_noRef_eq_1, q_V_noRef_eq_2, q_K_noRef_eq_1, q_K_noRef_eq_3, q_O_noRef_eq_1, q_regN_eq_2, q_V_reg_eq_4, q_freesL_eq_1, q_addsL_eq_1, q_regK_eq_1, q_retK_eq_2, q_List_map_cons, q_List_map_nil, q_List_foldl_cons, q_List_foldl_nil, q_List_replicate_succ, q_List_replicate_zero, q_List_set_cons_zero, q_List_set_cons_succ, q_List_length_cons, q_List_length_nil, q_List_all_cons, q_List_all_nil, true_and, forall_eq_or_imp, forall_eq, or_false, and_self, bne_iff_ne, ne_eq, Bool.and_true, Bool.true_and, Bool.or_true, Bool.false_or, List.mem_cons, Nat.reduceAdd, Nat.reduceMul, Nat.reduceEqDiff, Nat.reduceLT, Nat.reduceBEq, Nat.zero_add, not_false_eq_true, encT_len, lookT_here, lookT_next, List.not_mem_nil, r_all_noRef]
  refine call_lit 16 (s54 6 [.mk 2 17 [], .mk 0 3 [], .mk 0 3 []]) ?_
  simp only [pairV, encCV, encCell, q_wpLs_eq_1, q_wpLs_eq_2, q_wpL_eq_1, q_exL_eq_4, q_exL_eq_9, q_exL_eq_28, q_look_eq_1, q_look_eq_2, q_insT_eq_1, q_insO_eq_1, q_awl_eq_2, q_awl_eq_5, q_AE_thenL_eq_1, q_V_cells_eq_2, q_splice_eq_1, q_stVarK_eq_1, q_storeK_eq_1, q_mapT_eq_1, q_mapT_eq_2, q_mapO_eq_1, q_mapO_eq_2, q_delO_eq_1, q_delO_eq_2, q_freeB_eq_1, q_freeT_eq_1, q_freeT_eq_2, q_freeO_eq_1, q_freeO_eq_2, q_V_noRef_eq_1, q_V_noRef_eq_2, q_K_noRef_eq_1, q_K_noRef_eq_3, q_O_noRef_eq_1, q_regN_eq_2, q_V_reg_eq_4, q_freesL_eq_1, q_addsL_eq_1, q_regK_eq_1, q_retK_eq_2, q_List_map_cons, q_List_map_nil, q_List_take_zero, q_List_drop_succ_cons, q_List_drop_zero, q_List_nil_append, q_List_length_cons, q_List_length_nil, q_List_all_cons, q_List_all_nil, true_and, if_true, if_false, bne_iff_ne, ne_eq, Bool.and_true, Bool.true_and, Bool.or_true, Bool.false_or, List.append_nil, Nat.reduceAdd, Nat.reduceMul, Nat.reduceEqDiff, Nat.reduceBEq, Nat.zero_add, Nat.le_refl, not_false_eq_true, List.length_map, encT_len, lookT_here, lookT_next, lookO_here, z_V_k, z_V_agg, z_K_c, z_O_var, z_frzT, z_frzO, r_all_noRef, r_map_frz, z_K_own_arr, z_K_ptr_arr, uf29r27, uf29b28]
  refine call_r (s55 17) ?_
  simp only [pairV, encCV, encCell, q_wpLs_eq_2, q_wpL_eq_1, q_exL_eq_28, q_look_eq_2, q_insT_eq_1, q_regN_eq_2, q_V_reg_eq_4, q_freesL_eq_1, q_addsL_eq_1, q_regK_eq_1, q_retK_eq_2, q_List_map_cons, q_List_map_nil, q_List_length_nil, true_and, Nat.reduceAdd, Nat.reduceMul]
  refine call_r (s55 0) ?_
  simp only [pairV, encCV, encCell, q_wpLs_eq_2, q_wpL_eq_1, q_exL_eq_28, q_look_eq_2, q_insT_eq_1, q_regN_eq_2, q_V_reg_eq_4, q_freesL_eq_1, q_addsL_eq_1, q_regK_eq_1, q_retK_eq_2, q_List_map_cons, q_List_map_nil, q_List_length_nil, true_and, Nat.reduceAdd, Nat.reduceMul]
  refine call_r (s56 3) ?_
  simp only [pairV, encCV, encCell, q_wpLs_eq_2, q_wpL_eq_1, q_exL_eq_7, q_exL_eq_28, q_look_eq_1, q_look_eq_2, q_insT_eq_1, q_insO_eq_1, q_vRow_eq_2, q_vLits_eq_1, q_vLits_eq_2, q_bsK_eq_1, q_freeB_eq_1, q_freeT_eq_1, q_freeT_eq_2, q_freeO_eq_1, q_freeO_eq_2, q_V_noRef_eq_1, q_V_noRef_eq_2, q_K_noRef_eq_1, q_K_noRef_eq_3, q_O_noRef_eq_1, q_regN_eq_2, q_V_reg_eq_4, q_freesL_eq_1, q_addsL_eq_1, q_regK_eq_1, q_retK_eq_2, q_List_map_cons, q_List_map_nil, q_List_foldl_cons, q_List_foldl_nil, q_List_replicate_succ, q_List_replicate_zero, q_List_set_cons_zero, q_List_set_cons_succ, q_List_length_cons, q_List_length_nil, q_List_all_cons, q_List_all_nil, true_and, forall_eq_or_imp, forall_eq, or_false, and_self, bne_iff_ne, ne_eq, Bool.and_eq_true, Bool.and_true, Bool.true_and, Bool.or_true, Bool.false_or, List.mem_cons, Nat.reduceAdd, Nat.reduceMul, Nat.reduceEqDiff, Nat.reduceLT, Nat.reduceBEq, Nat.zero_add, not_false_eq_true, encT_len, lookT_here, lookT_next, List.not_mem_nil, r_all_noRef]
  refine call_lit 21 (s54 6 [.mk 2 17 [], .mk 2 0 [], .mk 0 3 []]) ?_
  simp only [pairV, encCV, encCell, q_wpLs_eq_1, q_wpLs_eq_2, q_wpL_eq_1, q_exL_eq_4, q_exL_eq_9, q_exL_eq_28, q_look_eq_1, q_look_eq_2, q_insT_eq_1, q_insO_eq_1, q_awl_eq_2, q_awl_eq_5, q_AE_thenL_eq_1, q_V_cells_eq_2, q_splice_eq_1, q_stVarK_eq_1, q_storeK_eq_1, q_mapT_eq_1, q_mapT_eq_2, q_mapO_eq_1, q_mapO_eq_2, q_delO_eq_1, q_delO_eq_2, q_freeB_eq_1, q_freeT_eq_1, q_freeT_eq_2, q_freeO_eq_1, q_freeO_eq_2, q_V_noRef_eq_1, q_V_noRef_eq_2, q_K_noRef_eq_1, q_K_noRef_eq_3, q_O_noRef_eq_1, q_regN_eq_2, q_V_reg_eq_4, q_freesL_eq_1, q_addsL_eq_1, q_regK_eq_1, q_retK_eq_2, q_List_map_cons, q_List_map_nil, q_List_take_zero, q_List_drop_succ_cons, q_List_drop_zero, q_List_nil_append, q_List_length_cons, q_List_length_nil, q_List_all_cons, q_List_all_nil, true_and, if_true, if_false, and_self, bne_iff_ne, ne_eq, Bool.and_eq_true, Bool.and_true, Bool.true_and, Bool.or_true, Bool.false_or, List.append_nil, Nat.reduceAdd, Nat.reduceMul, Nat.reduceEqDiff, Nat.reduceBEq, Nat.zero_add, Nat.le_refl, not_false_eq_true, List.length_map, encT_len, lookT_here, lookT_next, lookO_here, z_V_k, z_V_agg, z_K_c, z_O_var, z_frzT, z_frzO, r_all_noRef, r_map_frz, z_K_own_arr, z_K_ptr_arr, uf29r25, uf29b26]
  refine call_r (s55 0) ?_
  simp only [pairV, encCV, encCell, q_wpLs_eq_2, q_wpL_eq_1, q_exL_eq_28, q_look_eq_2, q_insT_eq_1, q_regN_eq_2, q_V_reg_eq_4, q_freesL_eq_1, q_addsL_eq_1, q_regK_eq_1, q_retK_eq_2, q_List_map_cons, q_List_map_nil, q_List_length_nil, true_and, Nat.reduceAdd, Nat.reduceMul]
  refine call_r (s55 0) ?_
  simp only [pairV, encCV, encCell, q_wpLs_eq_2, q_wpL_eq_1, q_exL_eq_7, q_exL_eq_28, q_look_eq_1, q_look_eq_2, q_insT_eq_1, q_insO_eq_1, q_vRow_eq_2, q_vLits_eq_1, q_vLits_eq_2, q_bsK_eq_1, q_freeB_eq_1, q_freeT_eq_1, q_freeT_eq_2, q_freeO_eq_1, q_freeO_eq_2, q_V_noRef_eq_1, q_V_noRef_eq_2, q_K_noRef_eq_1, q_K_noRef_eq_3, q_O_noRef_eq_1, q_regN_eq_2, q_V_reg_eq_4, q_freesL_eq_1, q_addsL_eq_1, q_regK_eq_1, q_retK_eq_2, q_List_map_cons, q_List_map_nil, q_List_foldl_cons, q_List_foldl_nil, q_List_replicate_succ, q_List_replicate_zero, q_List_set_cons_zero, q_List_set_cons_succ, q_List_length_cons, q_List_length_nil, q_List_all_cons, q_List_all_nil, true_and, forall_eq_or_imp, forall_eq, or_false, and_self, bne_iff_ne, ne_eq, Bool.and_eq_true, Bool.and_true, Bool.true_and, Bool.or_true, Bool.false_or, List.mem_cons, Nat.reduceAdd, Nat.reduceMul, Nat.reduceEqDiff, Nat.reduceLT, Nat.reduceBEq, Nat.zero_add, not_false_eq_true, encT_len, lookT_here, lookT_next, List.not_mem_nil, r_all_noRef]
  refine call_lit 25 (s54 11 [.mk 2 0 [], .mk 2 0 []]) ?_
  simp only [pairV, encCV, encCell, q_wpLs_eq_1, q_wpLs_eq_2, q_wpL_eq_1, q_exL_eq_4, q_exL_eq_8, q_exL_eq_9, q_exL_eq_28, q_look_eq_1, q_insT_eq_1, q_insO_eq_1, q_awl_eq_2, q_awl_eq_5, q_AE_thenL_eq_1, q_putK_eq_1, q_loadO_eq_1, q_isV_eq_1, q_vLoad_eq_1, q_V_cells_eq_2, q_splice_eq_1, q_stVarK_eq_1, q_storeK_eq_1, q_mapT_eq_1, q_mapT_eq_2, q_mapO_eq_1, q_mapO_eq_2, q_delO_eq_1, q_delO_eq_2, q_freeB_eq_1, q_freeT_eq_1, q_freeT_eq_2, q_freeO_eq_1, q_freeO_eq_2, q_V_noRef_eq_1, q_V_noRef_eq_2, q_K_noRef_eq_1, q_K_noRef_eq_3, q_O_noRef_eq_1, q_regN_eq_2, q_V_reg_eq_4, q_freesL_eq_1, q_addsL_eq_1, q_regK_eq_1, q_retK_eq_2, q_List_map_cons, q_List_map_nil, q_List_take_zero, q_List_drop_succ_cons, q_List_drop_zero, q_List_nil_append, q_List_length_cons, q_List_length_nil, q_List_all_cons, q_List_all_nil, true_and, if_true, if_false, and_self, bne_iff_ne, ne_eq, Bool.and_eq_true, Bool.and_true, Bool.true_and, Bool.or_true, Bool.false_or, List.append_nil, Nat.reduceAdd, Nat.reduceMul, Nat.reduceEqDiff, Nat.reduceBEq, Nat.zero_add, Nat.le_refl, not_false_eq_true, List.length_map, r_ofRow_take, encT_len, lookT_here, lookT_next, lookO_here, lookO_next, z_V_k, z_V_agg, z_K_c, z_O_var, z_frzT, z_frzO, r_all_noRef, r_map_frz, z_K_own_arr, z_K_ptr_arr, uf29r23, uf29b24]
  refine call_s c1 ?_ (ha := by rfl)
  simp only [pairV, encCV, encCell, q_wpLs_eq_1, q_wpLs_eq_2, q_wpL_eq_1, q_exL_eq_1, q_exL_eq_27, q_exL_eq_28, q_look_eq_1, q_look_eq_2, q_insT_eq_1, q_awl_eq_2, q_awl_eq_5, q_AE_thenL_eq_1, q_putK_eq_1, q_vExtr_eq_1, q_List_map_cons, q_List_map_nil, q_List_getElemQ_cons_zero, q_List_getElemQ_cons_succ, true_and, Nat.reduceBEq, lookT_here, lookT_next, uf29r21, uf29b22]
  refine call_r (s56 1) ?_
  simp only [pairV, encCV, encCell, q_wpLs_eq_2, q_wpL_eq_1, q_exL_eq_7, q_exL_eq_28, q_look_eq_1, q_look_eq_2, q_insT_eq_1, q_insO_eq_1, q_vRow_eq_2, q_vLits_eq_1, q_vLits_eq_2, q_bsK_eq_1, q_freeB_eq_1, q_freeT_eq_1, q_freeT_eq_2, q_freeO_eq_1, q_freeO_eq_2, q_V_noRef_eq_1, q_V_noRef_eq_2, q_V_noRef_eq_4, q_K_noRef_eq_1, q_K_noRef_eq_3, q_O_noRef_eq_1, q_V_noRefL_eq_1, q_V_noRefL_eq_2, q_regN_eq_2, q_V_reg_eq_4, q_freesL_eq_1, q_addsL_eq_1, q_regK_eq_1, q_retK_eq_2, q_List_map_cons, q_List_map_nil, q_List_foldl_cons, q_List_foldl_nil, q_List_replicate_succ, q_List_replicate_zero, q_List_set_cons_zero, q_List_length_cons, q_List_length_nil, q_List_all_cons, q_List_all_nil, true_and, forall_eq, or_false, and_self, bne_iff_ne, ne_eq, Bool.and_eq_true, Bool.and_true, Bool.true_and, Bool.or_true, Bool.false_or, List.mem_cons, Nat.reduceAdd, Nat.reduceMul, Nat.reduceEqDiff, Nat.reduceLT, Nat.reduceBEq, Nat.zero_add, not_false_eq_true, encT_len, lookT_here, List.not_mem_nil, r_all_noRef]
  refine call_lit 34 (s54 3 [.mk 0 1 []]) ?_
  simp only [pairV, encCV, encCell, q_wpLs_eq_2, q_wpL_eq_1, q_exL_eq_28, q_look_eq_1, q_insT_eq_1, q_mapT_eq_1, q_mapT_eq_2, q_mapO_eq_1, q_mapO_eq_2, q_delO_eq_1, q_delO_eq_2, q_regN_eq_2, q_V_reg_eq_4, q_freesL_eq_1, q_addsL_eq_1, q_regK_eq_1, q_retK_eq_2, q_List_map_cons, q_List_map_nil, q_List_length_nil, true_and, if_true, if_false, Nat.reduceAdd, Nat.reduceMul, Nat.reduceEqDiff, lookT_here, lookO_here, z_V_k, z_V_agg, z_V_tup, z_K_c, z_O_var, z_frzT, z_frzO, r_map_frz, z_K_own_arr, z_K_ptr_arr]
  refine call_s c2 ?_ (ha := by rfl)
  simp only [pairV, encCV, encCell, q_wpLs_eq_1, q_wpLs_eq_2, q_wpLQs_eq_2, q_wpL_eq_1, q_wpLQ_eq_1, q_AOp_dst_eq_1, q_AOp_dst_eq_10, q_exL_eq_1, q_exL_eq_3, q_exL_eq_11, q_exL_eq_27, q_exLQ_eq_9, q_exLQ_eq_29, q_look_eq_1, q_look_eq_2, q_insT_eq_1, q_awl_eq_1, q_awl_eq_2, q_awl_eq_3, q_awl_eq_5, q_awl_eq_6, q_AE_thenL_eq_1, q_putK_eq_1, q_vBin_eq_1, q_resV_eq_1, q_binV_eq_1, q_binInt_eq_3, q_cutInt_eq_7, q_vExtr_eq_1, q_loadO_eq_1, q_isV_eq_1, q_vLoad_eq_1, q_vPick_eq_1, q_Bool_not_false, q_List_map_cons, q_List_map_nil, q_List_drop_zero, q_List_getElemQ_cons_zero, q_List_getElemQ_cons_succ, true_and, if_true, if_false, Bool.false_eq_true, Nat.reduceBEq, Nat.zero_add, Nat.le_refl, q_learn_eq_1, q_guardP_eq_2, q_condK_eq_1, q_condB_eq_2, q_exK_eq_1, List.length_map, r_ofRow_take, encT_len, lookT_here, lookT_next, Int.reduceBNe, lookO_here, lookO_next, uf29r12, uf29b13, uf29b14, uf29b17, uf29r18, uf29b19, uf29b20]
  refine callQ_l (s57 15 0 (by decide)) ?_ (ha := by rfl)
  simp only [pairV, encCV, encCell, q_wpLQs_eq_2, q_wpLQ_eq_1, q_exLQ_eq_29, q_look_eq_1, q_insT_eq_1, q_V_fz_eq_1, q_K_fz_eq_1, q_List_map_cons, q_List_map_nil, Nat.reduceBEq, lookT_here, lookT_next]
  refine callQ_l c3 ?_ (ha := by rfl)
  simp only [pairV, encCV, encCell, q_wpLQs_eq_2, q_wpLQ_eq_1, q_AOp_dst_eq_8, q_AOp_dst_eq_32, q_exLQ_eq_1, q_exLQ_eq_6, q_exLQ_eq_9, q_exLQ_eq_14, q_exLQ_eq_29, q_look_eq_1, q_look_eq_2, q_insT_eq_1, q_putK_eq_1, q_vEqAgg_eq_1, q_mapV_eq_1, q_eqRow_eq_1, q_eqRow_eq_2, q_eqC_eq_1, q_eqC_eq_2, q_loadO_eq_1, q_isV_eq_1, q_vLoad_eq_1, q_vBuild_eq_1, q_vBuild_eq_2, q_rowV_eq_1, q_ofRow_eq_2, q_pureRow_eq_1, q_pureRow_eq_2, q_V_cells_eq_1, q_splice_eq_1, q_V_fz_eq_2, q_Bool_not_true, q_Bool_not_false, q_Option_map_some, q_List_map_cons, q_List_map_nil, q_List_take_zero, q_List_drop_succ_cons, q_List_drop_zero, q_List_nil_append, q_List_cons_append, q_List_length_cons, q_List_length_nil, true_and, if_true, and_self, Bool.and_true, BEq.rfl, Nat.reduceAdd, Nat.reduceLeDiff, Nat.reduceBEq, Nat.zero_add, Nat.le_refl, q_guardP_eq_2, q_condB_eq_2, q_exKQ_eq_1, List.length_map, r_ofRow_take, encT_len, lookT_here, lookT_next, lookO_here, lookO_next, Option.bind_some]
  refine callQ_l (s57 15 1 (by decide)) ?_ (ha := by rfl)
  simp only [pairV, encCV, encCell, q_wpLQs_eq_2, q_wpLQ_eq_1, q_AOp_dst_eq_32, q_exLQ_eq_29, q_look_eq_1, q_insT_eq_1, q_V_fz_eq_1, q_K_fz_eq_1, q_Bool_not_false, q_List_map_cons, q_List_map_nil, Nat.reduceBEq, q_guardP_eq_2, q_condB_eq_2, q_exKQ_eq_1, lookT_here, lookT_next]
  refine callQ_l c4 ?_ (ha := by rfl)
  simp only [pairV, encCV, encCell, q_wpLQs_eq_1, q_wpLQs_eq_2, q_wpLQ_eq_1, q_AOp_dst_eq_21, q_exLQ_eq_3, q_exLQ_eq_9, q_exLQ_eq_23, q_exLQ_eq_29, q_look_eq_1, q_look_eq_2, q_insT_eq_1, q_awl_eq_1, q_awl_eq_3, q_awl_eq_5, q_awl_eq_6, q_AE_thenL_eq_1, q_putK_eq_1, q_vField_eq_1, q_loadO_eq_1, q_isV_eq_1, q_vLoad_eq_1, q_vPick_eq_1, q_ofRow_eq_1, q_pureRow_eq_1, q_pureRow_eq_2, q_V_fz_eq_2, q_Bool_not_false, q_Option_map_some, q_List_map_cons, q_List_map_nil, q_List_take_succ_cons, q_List_take_zero, q_List_drop_zero, q_List_length_cons, q_List_length_nil, true_and, if_false, Bool.false_eq_true, Nat.reduceAdd, Nat.reduceLeDiff, Nat.reduceBEq, Nat.zero_add, Nat.le_refl, q_learn_eq_1, q_guardP_eq_2, q_condK_eq_1, q_condB_eq_2, q_exKQ_eq_1, List.length_map, r_ofRow_take, encT_len, lookT_here, lookT_next, lookO_here, lookO_next, uf29r6, uf29b7, uf29b8, uf29b11]
  refine callQ_l c5 ?_ (ha := by rfl)
  simp only [pairV, encCV, encCell, q_wpLQs_eq_2, q_wpLQ_eq_1, q_AOp_dst_eq_8, q_AOp_dst_eq_32, q_exLQ_eq_1, q_exLQ_eq_6, q_exLQ_eq_9, q_exLQ_eq_14, q_exLQ_eq_29, q_look_eq_1, q_look_eq_2, q_insT_eq_1, q_putK_eq_1, q_vEqAgg_eq_1, q_mapV_eq_1, q_eqRow_eq_1, q_eqRow_eq_2, q_eqC_eq_1, q_eqC_eq_2, q_loadO_eq_1, q_isV_eq_1, q_vLoad_eq_1, q_vBuild_eq_1, q_vBuild_eq_2, q_rowV_eq_1, q_ofRow_eq_2, q_pureRow_eq_1, q_pureRow_eq_2, q_V_cells_eq_1, q_splice_eq_1, q_V_fz_eq_2, q_Bool_not_true, q_Bool_not_false, q_Option_map_some, q_List_map_cons, q_List_map_nil, q_List_take_succ_cons, q_List_take_zero, q_List_drop_succ_cons, q_List_drop_zero, q_List_nil_append, q_List_cons_append, q_List_length_cons, q_List_length_nil, true_and, if_true, and_self, Bool.and_true, BEq.rfl, List.append_nil, Nat.reduceAdd, Nat.reduceLeDiff, Nat.reduceBEq, Nat.zero_add, Nat.le_refl, q_guardP_eq_2, q_condB_eq_2, q_exKQ_eq_1, List.length_map, r_ofRow_take, encT_len, lookT_here, lookT_next, lookO_here, lookO_next, Option.bind_some]
  refine callQ_l (s57 17 1 (by decide)) ?_ (ha := by rfl)
  simp only [pairV, encCV, encCell, q_wpLQs_eq_2, q_wpLQ_eq_1, q_AOp_dst_eq_32, q_exLQ_eq_29, q_look_eq_1, q_insT_eq_1, q_V_fz_eq_1, q_K_fz_eq_1, q_Bool_not_false, q_List_map_cons, q_List_map_nil, Nat.reduceBEq, q_guardP_eq_2, q_condB_eq_2, q_exKQ_eq_1, lookT_here, lookT_next]
  refine callQ_l c6 ?_ (ha := by rfl)
  simp only [pairV, encCV, encCell, q_wpLQs_eq_1, q_wpLQs_eq_2, q_wpLQ_eq_1, q_AOp_dst_eq_21, q_exLQ_eq_3, q_exLQ_eq_9, q_exLQ_eq_23, q_exLQ_eq_29, q_look_eq_1, q_look_eq_2, q_insT_eq_1, q_awl_eq_1, q_awl_eq_3, q_awl_eq_5, q_awl_eq_6, q_AE_thenL_eq_1, q_putK_eq_1, q_vField_eq_1, q_loadO_eq_1, q_isV_eq_1, q_vLoad_eq_1, q_vPick_eq_1, q_ofRow_eq_1, q_pureRow_eq_1, q_pureRow_eq_2, q_V_fz_eq_2, q_Bool_not_false, q_Option_map_some, q_List_map_cons, q_List_map_nil, q_List_take_succ_cons, q_List_take_zero, q_List_drop_zero, q_List_length_cons, q_List_length_nil, true_and, if_false, Bool.false_eq_true, Nat.reduceAdd, Nat.reduceLeDiff, Nat.reduceBEq, Nat.zero_add, Nat.le_refl, q_learn_eq_1, q_guardP_eq_2, q_condK_eq_1, q_condB_eq_2, q_exKQ_eq_1, List.length_map, r_ofRow_take, encT_len, lookT_here, lookT_next, lookO_here, lookO_next, uf29r1, uf29b2, uf29b5]
  refine callQ_l (s57 15 1 (by decide)) ?_ (ha := by rfl)
  simp only [pairV, encCV, encCell, q_wpLQs_eq_2, q_wpLQ_eq_1, q_exLQ_eq_29, q_look_eq_1, q_insT_eq_1, q_V_fz_eq_1, q_K_fz_eq_1, q_List_map_cons, q_List_map_nil, Nat.reduceBEq, lookT_here, lookT_next]
  refine callQ_l c7 ?_ (ha := by rfl)
  simp only [pairV, encCV, encCell, q_wpLQs_eq_2, q_wpLQ_eq_1, q_exLQ_eq_8, q_exLQ_eq_29, q_look_eq_1, q_look_eq_2, q_insT_eq_1, q_vRow_eq_1, q_vLits_eq_1, q_vLits_eq_2, q_bsQ_eq_1, q_V_fz_eq_1, q_K_fz_eq_2, q_List_map_cons, q_List_map_nil, q_List_foldl_cons, q_List_foldl_nil, q_List_replicate_succ, q_List_replicate_zero, q_List_set_cons_zero, q_List_length_cons, q_List_length_nil, true_and, forall_eq, or_false, and_self, List.mem_cons, Nat.reduceLT, Nat.reduceBEq, Nat.zero_add, lookT_here, lookT_next, List.not_mem_nil]
  refine callQ_s (s22' [18]) ?_ (ha := by rfl)
  simp only [pairV, encCV, encCell, q_wpLQs_eq_2, q_wpLQ_eq_1, q_AOp_dst_eq_8, q_AOp_dst_eq_32, q_exLQ_eq_1, q_exLQ_eq_9, q_exLQ_eq_29, q_look_eq_1, q_look_eq_2, q_insT_eq_1, q_putK_eq_1, q_loadO_eq_1, q_isV_eq_1, q_vLoad_eq_1, q_V_fz_eq_1, q_K_fz_eq_2, q_Bool_not_true, q_List_map_cons, q_List_map_nil, q_List_drop_zero, true_and, Nat.reduceBEq, Nat.zero_add, Nat.le_refl, q_guardP_eq_1, q_condB_eq_1, q_exKQ_eq_1, List.length_map, r_ofRow_take, encT_len, lookT_here, lookT_next, lookO_here, lookO_next]
  refine callQ_l (s57 17 1 (by decide)) ?_ (ha := by rfl)
  simp only [pairV, encCV, encCell, q_wpLQs_eq_2, q_wpLQ_eq_1, q_AOp_dst_eq_32, q_exLQ_eq_29, q_look_eq_1, q_insT_eq_1, q_V_fz_eq_1, q_K_fz_eq_1, q_Bool_not_true, q_List_map_cons, q_List_map_nil, Nat.reduceBEq, q_guardP_eq_1, q_condB_eq_1, q_exKQ_eq_1, lookT_here, lookT_next]
  refine callQ_l c8 ?_ (ha := by rfl)
  simp only [pairV, encCV, encCell, q_wpLQs_eq_2, q_wpLQ_eq_1, q_AOp_dst_eq_7, q_AOp_dst_eq_32, q_exLQ_eq_8, q_exLQ_eq_29, q_look_eq_1, q_look_eq_2, q_insT_eq_1, q_vRow_eq_1, q_vLits_eq_1, q_vLits_eq_2, q_bsQ_eq_1, q_V_fz_eq_1, q_K_fz_eq_2, q_Bool_not_true, q_List_map_cons, q_List_map_nil, q_List_foldl_cons, q_List_foldl_nil, q_List_replicate_succ, q_List_replicate_zero, q_List_set_cons_zero, q_List_length_cons, q_List_length_nil, true_and, forall_eq, or_false, and_self, List.mem_cons, Nat.reduceLT, Nat.reduceBEq, Nat.zero_add, q_guardP_eq_1, q_condB_eq_1, q_exKQ_eq_1, lookT_here, lookT_next, List.not_mem_nil]
  refine callQ_s (s22' [0]) ?_ (ha := by rfl)
  simp only [pairV, encCV, encCell, q_wpLQs_eq_2, q_wpLQ_eq_1, q_AOp_dst_eq_8, q_AOp_dst_eq_32, q_exLQ_eq_1, q_exLQ_eq_3, q_exLQ_eq_9, q_exLQ_eq_29, q_look_eq_1, q_look_eq_2, q_insT_eq_1, q_putK_eq_1, q_loadO_eq_1, q_isV_eq_1, q_vLoad_eq_1, q_vPick_eq_1, q_V_fz_eq_1, q_K_fz_eq_2, q_Bool_not_true, q_List_map_cons, q_List_map_nil, q_List_drop_zero, true_and, if_true, Nat.reduceBEq, Nat.zero_add, Nat.le_refl, q_guardP_eq_1, q_condB_eq_1, q_exKQ_eq_1, List.length_map, r_ofRow_take, encT_len, lookT_here, lookT_next, lookO_here]
  refine callQ_l (s57 0 1099511627776 (by decide)) ?_ (ha := by rfl)
  simp only [pairV, encCV, encCell, q_wpLQs_eq_2, q_wpLQ_eq_1, q_AOp_dst_eq_32, q_exLQ_eq_29, q_look_eq_1, q_insT_eq_1, q_V_fz_eq_1, q_K_fz_eq_1, q_Bool_not_true, q_List_map_cons, q_List_map_nil, Nat.reduceBEq, q_guardP_eq_1, q_condB_eq_1, q_exKQ_eq_1, lookT_here, lookT_next]
  refine callQ_l c9 ?_ (ha := by rfl)
  simp only [pairV, encCV, encCell, q_wpLQs_eq_2, q_wpLQ_eq_1, q_AOp_dst_eq_6, q_AOp_dst_eq_8, q_AOp_dst_eq_12, q_AOp_dst_eq_32, q_exLQ_eq_1, q_exLQ_eq_3, q_exLQ_eq_6, q_exLQ_eq_9, q_exLQ_eq_14, q_exLQ_eq_29, q_look_eq_1, q_look_eq_2, q_insT_eq_1, q_putK_eq_1, q_vEqAgg_eq_1, q_mapV_eq_1, q_eqRow_eq_1, q_eqRow_eq_2, q_eqC_eq_1, q_eqC_eq_2, q_loadO_eq_1, q_isV_eq_1, q_vLoad_eq_1, q_vPick_eq_1, q_vBuild_eq_1, q_vBuild_eq_2, q_rowV_eq_1, q_ofRow_eq_2, q_pureRow_eq_1, q_pureRow_eq_2, q_V_cells_eq_1, q_splice_eq_1, q_V_fz_eq_2, q_Bool_not_true, q_Option_map_some, q_List_map_cons, q_List_map_nil, q_List_take_succ_cons, q_List_take_zero, q_List_drop_succ_cons, q_List_drop_zero, q_List_nil_append, q_List_cons_append, q_List_length_cons, q_List_length_nil, true_and, if_true, if_false, Bool.false_eq_true, and_self, Bool.and_true, BEq.rfl, List.append_nil, Nat.reduceAdd, Nat.reduceLeDiff, Nat.reduceBEq, Nat.zero_add, Nat.le_refl, q_guardP_eq_1, q_condB_eq_1, q_exKQ_eq_1, List.length_map, r_ofRow_take, encT_len, lookT_here, lookT_next, lookO_here, lookO_next, Option.bind_some]
  refine callQ_l c10 ?_ (ha := by rfl)
  simp only [pairV, encCV, encCell, q_wpLQs_eq_2, q_wpLQ_eq_1, q_AOp_dst_eq_7, q_AOp_dst_eq_32, q_exLQ_eq_8, q_exLQ_eq_29, q_look_eq_1, q_look_eq_2, q_insT_eq_1, q_vRow_eq_1, q_vLits_eq_1, q_vLits_eq_2, q_bsQ_eq_1, q_V_fz_eq_1, q_K_fz_eq_1, q_Bool_not_true, q_List_map_cons, q_List_map_nil, q_List_foldl_cons, q_List_foldl_nil, q_List_replicate_succ, q_List_replicate_zero, q_List_set_cons_zero, q_List_set_cons_succ, q_List_length_cons, q_List_length_nil, true_and, forall_eq_or_imp, forall_eq, or_false, and_self, List.mem_cons, Nat.reduceAdd, Nat.reduceLT, Nat.reduceBEq, Nat.zero_add, q_guardP_eq_1, q_condB_eq_1, q_exKQ_eq_1, lookT_here, lookT_next, List.not_mem_nil]
  refine callQ_s (s22' [0, 17]) ?_ (ha := by rfl)
  simp only [pairV, encCV, encCell, q_wpLQs_eq_1, q_wpLQs_eq_2, q_wpLQ_eq_1, q_exLQ_eq_1, q_exLQ_eq_3, q_look_eq_1, q_look_eq_2, q_insT_eq_1, q_awl_eq_10, q_putK_eq_1, q_vPick_eq_1, q_mapT_eq_1, q_mapT_eq_2, q_mapO_eq_1, q_mapO_eq_2, q_endK_eq_2, q_endL_eq_1, q_endV_eq_1, q_resL_eq_1, q_resL_eq_2, q_resX_eq_1, q_one_eq_1, q_V_nrm_eq_1, q_V_nrm_eq_2, q_V_nrm_eq_4, q_V_nrm_eq_6, q_K_nrm_eq_1, q_K_nrm_eq_3, q_V_nrmL_eq_1, q_V_nrmL_eq_2, q_O_nrm_eq_1, q_V_owns_eq_1, q_K_owns_eq_2, q_V_toNew_eq_1, q_K_toNew_eq_1, q_C_norm_eq_1, q_C_norm_eq_4, q_C_norm_eq_5, q_C_normRow_eq_1, q_C_normRow_eq_2, q_C_normRows_eq_1, q_C_normRows_eq_2, q_V_fz_eq_1, q_K_fz_eq_2, q_List_map_cons, q_List_map_nil, q_List_isEmpty_nil, q_List_isEmpty_cons, true_and, if_true, if_false, Bool.false_eq_true, and_self, List.nodup_nil, Nat.reduceBEq, norm_lst, normRows_Ce, normRows_ints, encT_norm, lookT_here, lookT_next, r_map_nrm]
  exact hS
end Go.Abs


set_option maxRecDepth 100000
set_option maxHeartbeats 4000000
namespace Go.Abs
open Go.Proofs
theorem k6 (t : Term) (cells : List Cell) : Spec Try.prog 6 [.agg (encT t), lst 2 (cells.map encCell)] (fun r => r = .bool true) := by
  refine Spec.of_awlS hf6 okf6 (by simp) fun S hS => ?_
  simp only [q_wpLs_eq_1, q_wpLs_eq_2, q_wpL_eq_1, q_exL_eq_1, q_exL_eq_5, q_exL_eq_28, q_look_eq_1, q_look_eq_2, q_insT_eq_1, q_insO_eq_1, q_awl_eq_2, q_awl_eq_5, q_AE_thenL_eq_1, q_initT_eq_1, q_initT_eq_2, q_boxK_eq_1, q_freeB_eq_1, q_freeT_eq_1, q_freeT_eq_2, q_freeO_eq_1, q_V_noRef_eq_1, q_V_noRef_eq_2, q_K_noRef_eq_1, q_List_map_nil, true_and, Bool.and_true, Bool.or_true, Nat.reduceAdd, Nat.reduceBEq, Nat.zero_add, lookT_here, uf6, uf6r9, uf6b10, uf6r11, uf6b12]
  refine call_s s29 ?_
  simp only [q_wpLs_eq_1, q_wpLs_eq_2, q_wpL_eq_1, q_exL_eq_1, q_exL_eq_8, q_exL_eq_28, q_look_eq_1, q_insT_eq_1, q_awl_eq_2, q_awl_eq_5, q_AE_thenL_eq_1, q_putK_eq_1, q_loadO_eq_1, q_isV_eq_1, q_vLoad_eq_1, q_List_map_cons, q_List_map_nil, q_List_drop_zero, true_and, Nat.reduceBEq, Nat.zero_add, Nat.le_refl, List.length_map, r_ofRow_take, encT_len, lookT_here, lookT_next, lookO_here, uf6r6, uf6b7, uf6b8]
  refine call_s (s30 t) ?_
  cases h1 : few t
  · simp only [q_wpLs_eq_1, q_wpLs_eq_2, q_wpL_eq_1, q_putDL_eq_1, q_AOp_dst_eq_1, q_AOp_dst_eq_10, q_AOp_dst_eq_27, q_exL_eq_1, q_exL_eq_3, q_exL_eq_15, q_look_eq_1, q_look_eq_2, q_insT_eq_1, q_awl_eq_2, q_awl_eq_5, q_awl_eq_6, q_awl_eq_10, q_AE_thenL_eq_1, q_AE_thenL_eq_3, q_putK_eq_1, q_vUn_eq_1, q_unV_eq_2, q_mapC_eq_1, q_vPick_eq_2, q_mapT_eq_1, q_mapT_eq_2, q_mapO_eq_1, q_mapO_eq_2, q_endK_eq_2, q_endL_eq_1, q_endV_eq_1, q_resL_eq_1, q_resL_eq_2, q_resX_eq_1, q_one_eq_1, q_V_nrm_eq_1, q_V_nrm_eq_2, q_V_nrm_eq_5, q_K_nrm_eq_1, q_K_nrm_eq_3, q_O_nrm_eq_1, q_V_owns_eq_1, q_K_owns_eq_2, q_V_toNew_eq_1, q_K_toNew_eq_1, q_C_norm_eq_5, q_Bool_not_false, true_and, and_self, List.nodup_nil, Nat.reduceBEq, q_learn_eq_1, q_guardP_eq_2, q_condK_eq_1, q_condB_eq_1, norm_lst, normRows_Ce, encT_norm, lookT_here, lookT_next, r_map_nrm, uf6r3, uf6b4, uf6b5]
    exact hS
  by_cases h2 : (cells.length : Int) > 30
  · simp only [h2, List.length_map, q_wpLs_eq_1, q_wpLs_eq_2, q_wpL_eq_1, q_AOp_dst_eq_1, q_AOp_dst_eq_10, q_AOp_dst_eq_27, q_exL_eq_1, q_exL_eq_3, q_exL_eq_11, q_exL_eq_15, q_exL_eq_30, q_look_eq_1, q_look_eq_2, q_insT_eq_1, q_awl_eq_2, q_awl_eq_5, q_awl_eq_6, q_awl_eq_10, q_AE_thenL_eq_1, q_AE_thenL_eq_3, q_putK_eq_1, q_vBin_eq_1, q_resV_eq_1, q_binV_eq_1, q_binInt_eq_3, q_cutInt_eq_10, q_vUn_eq_1, q_unV_eq_2, q_mapC_eq_1, q_vPick_eq_1, q_mapT_eq_1, q_mapT_eq_2, q_mapO_eq_1, q_mapO_eq_2, q_endK_eq_2, q_endL_eq_1, q_endV_eq_1, q_resL_eq_1, q_resL_eq_2, q_resX_eq_1, q_one_eq_1, q_V_nrm_eq_1, q_V_nrm_eq_2, q_K_nrm_eq_1, q_K_nrm_eq_3, q_O_nrm_eq_1, q_V_owns_eq_1, q_K_owns_eq_2, q_V_toNew_eq_1, q_K_toNew_eq_1, q_C_norm_eq_4, q_C_norm_eq_5, q_Bool_not_true, q_Bool_not_false, true_and, if_true, if_false, Bool.false_eq_true, and_self, List.nodup_nil, Nat.reduceBEq, q_learn_eq_1, q_guardP_eq_2, q_condK_eq_1, q_condB_eq_1, q_condB_eq_2, q_exK_eq_1, decide_true, r_vLen_lst, norm_lst, normRows_Ce, encT_norm, List.length_map, lookT_here, lookT_next, r_map_nrm, uf6r3, uf6b4, uf6b5]
    exact hS
  simp only [h2, List.length_map, q_wpLs_eq_1, q_wpLs_eq_2, q_wpLQs_eq_2, q_wpL_eq_1, q_wpLQ_eq_1, q_AOp_dst_eq_1, q_AOp_dst_eq_8, q_AOp_dst_eq_10, q_AOp_dst_eq_27, q_AOp_dst_eq_32, q_exL_eq_1, q_exL_eq_3, q_exL_eq_11, q_exL_eq_15, q_exL_eq_30, q_exLQ_eq_1, q_exLQ_eq_9, q_exLQ_eq_29, q_look_eq_1, q_look_eq_2, q_insT_eq_1, q_awl_eq_1, q_awl_eq_3, q_awl_eq_5, q_awl_eq_6, q_AE_thenL_eq_1, q_putK_eq_1, q_vBin_eq_1, q_resV_eq_1, q_binV_eq_1, q_binInt_eq_3, q_cutInt_eq_10, q_vUn_eq_1, q_unV_eq_2, q_mapC_eq_1, q_loadO_eq_1, q_isV_eq_1, q_vLoad_eq_1, q_vPick_eq_1, q_Bool_not_true, q_Bool_not_false, q_List_map_cons, q_List_map_nil, q_List_drop_zero, true_and, if_true, if_false, Bool.false_eq_true, Nat.reduceBEq, Nat.zero_add, Nat.le_refl, q_learn_eq_1, q_guardP_eq_1, q_guardP_eq_2, q_condK_eq_1, q_condB_eq_1, q_condB_eq_2, q_exK_eq_1, q_exKQ_eq_1, decide_false, r_vLen_lst, List.length_map, r_ofRow_take, encT_len, lookT_here, lookT_next, lookO_here, uf6r1, uf6b2, uf6b5]
  obtain ⟨ek, en, he⟩ : ∃ k n, evalT t cells = Cell.mk k n := ⟨_, _, rfl⟩
  have c37 := s37 t cells
  have c38 := s38 t cells
  rw [he] at c37 c38
  refine callQ_l c37 ?_
  simp only [encCV, encCell, q_wpLQs_eq_2, q_wpLQ_eq_1, q_AOp_dst_eq_1, q_AOp_dst_eq_8, q_AOp_dst_eq_32, q_exLQ_eq_1, q_exLQ_eq_9, q_exLQ_eq_29, q_look_eq_1, q_insT_eq_1, q_putK_eq_1, q_loadO_eq_1, q_isV_eq_1, q_vLoad_eq_1, q_V_fz_eq_2, q_Bool_not_true, q_List_map_cons, q_List_map_nil, q_List_drop_zero, true_and, Nat.reduceBEq, Nat.zero_add, Nat.le_refl, q_guardP_eq_1, q_condB_eq_1, q_exKQ_eq_1, List.length_map, r_ofRow_take, encT_len, lookT_here, lookT_next, lookO_here]
  refine callQ_l c38 ?_
  simp only [encCV, encCell, q_wpLQs_eq_2, q_wpLQ_eq_1, q_AOp_dst_eq_1, q_AOp_dst_eq_8, q_AOp_dst_eq_12, q_AOp_dst_eq_32, q_exLQ_eq_1, q_exLQ_eq_3, q_exLQ_eq_9, q_exLQ_eq_14, q_exLQ_eq_29, q_look_eq_1, q_look_eq_2, q_insT_eq_1, q_putK_eq_1, q_vEqAgg_eq_1, q_mapV_eq_1, q_eqRow_eq_1, q_eqRow_eq_2, q_eqC_eq_1, q_eqC_eq_2, q_loadO_eq_1, q_isV_eq_1, q_vLoad_eq_1, q_vPick_eq_1, q_V_fz_eq_2, q_Bool_not_true, q_Option_map_some, q_List_map_cons, q_List_map_nil, q_List_drop_zero, true_and, if_true, if_false, Bool.false_eq_true, Bool.and_true, BEq.rfl, Nat.reduceBEq, Nat.zero_add, Nat.le_refl, q_guardP_eq_1, q_condB_eq_1, q_exKQ_eq_1, List.length_map, r_ofRow_take, encT_len, lookT_here, lookT_next, lookO_here, Option.bind_some]
  refine callQ_l (s39 t cells) ?_
  simp only [q_wpLQs_eq_2, q_wpLQ_eq_1, q_AOp_dst_eq_1, q_AOp_dst_eq_8, q_AOp_dst_eq_32, q_exLQ_eq_1, q_exLQ_eq_9, q_exLQ_eq_29, q_look_eq_1, q_insT_eq_1, q_putK_eq_1, q_loadO_eq_1, q_isV_eq_1, q_vLoad_eq_1, q_V_fz_eq_1, q_K_fz_eq_2, q_Bool_not_true, q_List_map_cons, q_List_map_nil, q_List_drop_zero, true_and, Nat.reduceBEq, Nat.zero_add, Nat.le_refl, q_guardP_eq_1, q_condB_eq_1, q_exKQ_eq_1, List.length_map, r_ofRow_take, encT_len, lookT_here, lookT_next, lookO_here]
  refine callQ_l (s40 t cells) ?_
  simp only [q_wpLQs_eq_2, q_wpLQ_eq_1, q_AOp_dst_eq_32, q_exLQ_eq_29, q_look_eq_1, q_insT_eq_1, q_V_fz_eq_1, q_K_fz_eq_1, q_Bool_not_true, q_List_map_cons, q_List_map_nil, Nat.reduceBEq, q_guardP_eq_1, q_condB_eq_1, q_exKQ_eq_1, lookT_here, lookT_next]
  refine callQ_s (s22' (reachT t cells)) ?_
  simp only [q_wpLQs_eq_1, q_wpLQs_eq_2, q_wpLQ_eq_1, q_exLQ_eq_1, q_exLQ_eq_3, q_look_eq_1, q_look_eq_2, q_insT_eq_1, q_awl_eq_10, q_putK_eq_1, q_vPick_eq_1, q_mapT_eq_1, q_mapT_eq_2, q_mapO_eq_1, q_mapO_eq_2, q_endK_eq_2, q_endL_eq_1, q_endV_eq_1, q_resL_eq_1, q_resL_eq_2, q_resX_eq_1, q_one_eq_1, q_V_nrm_eq_1, q_V_nrm_eq_2, q_K_nrm_eq_1, q_K_nrm_eq_3, q_O_nrm_eq_1, q_V_owns_eq_1, q_K_owns_eq_2, q_V_toNew_eq_1, q_K_toNew_eq_1, q_C_norm_eq_1, q_C_norm_eq_4, q_C_norm_eq_5, q_C_normRow_eq_1, q_C_normRow_eq_2, q_V_fz_eq_1, q_K_fz_eq_2, true_and, if_true, and_self, List.nodup_nil, Nat.reduceBEq, norm_lst, normRows_Ce, normRows_ints, encT_norm, lookT_here, lookT_next, r_map_nrm]
  exact hS
end Go.Abs


set_option maxRecDepth 100000
namespace Go.Proofs.Ytckobjgahmmkaaa
open Go.Abs Go.RowKit
theorem own : ownKnob Try.prog.godebug = none := by kernel_rfl
theorem kids : Kids Try.prog (· < Try.prog.types.size) := kids_rows (by kernel_rfl) (by kernel_rfl)
theorem full : ∀ t e, t < Try.prog.types.size → Try.prog.underlying t = some (.slice e) → 0 < Try.prog.cellsOf e := slices_full_of Try.prog (by kernel_rfl)
def plainTs : List TypeId := [3, 4, 39, 41, 51, 53]
theorem plainTs_ok : plainT Try.prog plainTs = true := by kernel_rfl
theorem plainTs_lt : ∀ t ∈ plainTs, t < Try.prog.types.size := by
  have : plainTs.all (fun t => decide (t < Try.prog.types.size)) = true := by kernel_rfl
  simpa using this
theorem tt : TermTypes Try.prog 3 4 9 41 39 43 23 45 22 25 where
  i := Try.underlying3
  b := Try.underlying4
  s := Try.underlying9
  t := ⟨_, Try.underlying41, rfl⟩
  lt := ⟨Try.underlying39, by kernel_rfl⟩
  r := ⟨_, Try.underlying43, rfl⟩
  lr := ⟨Try.underlying23, by kernel_rfl⟩
  c := ⟨_, Try.underlying45, rfl⟩
  lc := ⟨Try.underlying22, by kernel_rfl⟩
  o := ⟨_, Try.underlying25, rfl⟩
theorem spec6 (xs : List V) (h : ArgsOf Try.prog [41, 51] xs) : Go.Abs.Spec Try.prog 6 xs (fun r => r = .bool true) := by
  match xs, h with
  | [a0, a1], ⟨⟨_, _, h0, q0⟩, ⟨_, _, h1, q1⟩, _⟩ =>
    obtain ⟨x0, e0⟩ := arg_term tt h0
    obtain ⟨x1, e1⟩ := arg_cells Try.underlying51 Try.underlying53 rfl tt.b tt.i (by kernel_rfl) h1
    rw [q0, q1, e0, e1]
    exact k6 x0 x1
theorem lifted6 (os : Os) (started : os.Started) (H : Type) (enc : TypeId × Value → H) :
    ReturnsInHanded {} Try.checked os 6 .any (Rows.termEvalsSpec.pre6 enc Try.prog Try.f6 Rows.termEvalsRow.domain false) (Rows.termEvalsSpec.post enc Try.prog Try.f6 Rows.termEvalsRow.apart Rows.termEvalsRow.fresh Rows.termEvalsRow.handsOn Rows.termEvalsRow.again) := by
  refine law_lifted (C := Try.checked) (T := plainTs) (tb := 4) own started (by kernel_rfl) Try.func6 ?_ plainTs_ok plainTs_lt ?_ kids full rfl ?_ ?_ Try.underlying4 ?_
  · exact ChangeSpec.witness6 (enc := enc) (C := Try.checked) false ⟨#[], #[.agg #[.int .i64 0, .int .i64 0, .slice none 0 0], .slice none 0 0], []⟩ 8 (by kernel_rfl) (by kernel_rfl) (by kernel_rfl) (by kernel_rfl)
  · rw [Try.params6]; decide
  · intro ds hds
    rw [Try.params6] at hds
    match ds, hds with
    | [a0, a1], _ => rfl
  · kernel_rfl
  · intro xs hxs
    rw [Try.params6] at hxs
    exact spec6 xs hxs
theorem TermEvals_holds : Rows.TermEvalsSaid :=
  OpenClaim.holds_of_wide 6 Try.f6 rfl rfl rfl rfl rfl rfl rfl ⟨rfl, rfl, rfl, rfl, rfl⟩ rfl rfl rfl rfl rfl (by kernel_rfl) Try.func6 (by kernel_rfl)
    (of_decide_eq_true (by kernel_rfl)) (by unfold Func.isWrapper; first | (rw [if_pos (by decide +kernel)]; kernel_rfl) | (rw [if_neg (by decide +kernel)]; exact ⟨rfl, rfl⟩))
    (fun os started H enc _ => lifted6 os started H enc)
end Go.Proofs.Ytckobjgahmmkaaa

