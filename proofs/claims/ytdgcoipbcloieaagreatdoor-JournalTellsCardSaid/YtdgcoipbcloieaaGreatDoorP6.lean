/- A part of the proof; the last text states what is proved. -/
import Derived.Test.YtdgcoipbcloieaaGreatDoorP5
import Derived.Test.YtdgcoipbcloieaaGreatDoorRows
import Derived.Test.YtdgcoipbcloieaaGreatDoorCards
import Derived.Test.YtdgcoipbcloieaaGreatDoorTie
import Derived.ProofKit
import Derived.DataShut
import Derived.LaidMore
import Derived.Lib.LaidTab
import Derived.Lib.LaidU8
import Derived.OpenShut
import Derived.SevenTiedAt
import Derived.Deep.DeepHandedRow
import Derived.Deep.DeepWitnessRowRef
import Derived.Shelf.Vars
set_option linter.unusedVariables false
set_option linter.unusedSimpArgs false
set_option maxRecDepth 100000
set_option maxHeartbeats 4000000
namespace Go.Abs
open Go.Proofs Go.Wire Go.RowKit Go.Jr
theorem z12 (d : Disk) (h : Right d) : Spec Tryz.prog 12 [dV d] (fun r => r = resD (cutD d)) := by
  refine Spec.of_awlP hf12 okf12 (by simp) fun S hS => ?_
  have c38 := r38 d h
  obtain ⟨secs, pend, left, down⟩ := d
  unfold cutD at hS
  simp only [dV, encD] at *
  simp only [normRows_strs, normRows_wrs, Qs, if_true, bne_iff_ne, ne_eq, Nat.reduceAdd, Nat.reduceEqDiff, Nat.reduceBEq, uu f12.eq_1, id @f12r9.eq_1, uu f12b10.eq_1, id @f12r11.eq_1, uu f12b12.eq_1]
  refine call_s c38 ?_
  cases down
  · simp only [normRows_strs, normRows_wrs, Qs, if_true, if_false, Int.reduceNeg, List.append_nil, List.nodup_nil, Nat.reduceAdd, Nat.reduceLeDiff, Nat.reduceLT, Nat.reduceBEq, Int.reduceBNe, id @f12r1.eq_1, uu f12b2.eq_1, uu f12b5.eq_1, id @f12r6.eq_1, uu f12b7.eq_1, uu f12b8.eq_1]
    exact fin_T hS (norm_s _) (pend := []) rfl rfl
  · simp only [normRows_strs, normRows_wrs, Qs, if_true, List.append_nil, List.nodup_nil, Nat.reduceAdd, Nat.reduceLT, Nat.reduceBEq, Int.reduceBNe, id @f12r3.eq_1, uu f12b4.eq_1, uu f12b5.eq_1, id @f12r6.eq_1, uu f12b7.eq_1, uu f12b8.eq_1]
    exact fin_T hS (secs := []) (pend := []) rfl rfl rfl
theorem z39 (d : Disk) (h : Right d) (n : Nat) (hn : n ≤ d.pend.length) : Spec Tryz.prog 39 [dV d, .int .i64 n] (fun r => r = .k (.newl 9 1 none (strs (perf d.secs (d.pend.take n))))) := by
  refine Spec.of_awlS hf39 okf39 (by simp) fun S hS => ?_
  have hwr := h.wr
  have hhi := h.hi
  have hpe := h.pe
  obtain ⟨secs, pend, left, down⟩ := d
  simp only [dV, encD] at *
  simp only [normRows_strs, normRows_wrs, Qs, implies_true, bne_iff_ne, ne_eq, Nat.reduceAdd, Nat.reduceEqDiff, Nat.reduceBEq, List.not_mem_nil, implies_true, uu f39.eq_1, uu f39b25.eq_1, id @f39r26.eq_1, uu f39b27.eq_1, uu f39b28.eq_1, id @f39r29.eq_1, uu f39b30.eq_1, id @f39r31.eq_1, uu f39b32.eq_1]
  rw [uf39l24]
  refine awl_loop (fun i : Nat => [(1, .int .i64 n), (2, .k (.ptr 2 0)), (5, .k (.own 8)), (6, .int .i64 i)])
    (fun i => [(2, objC secs pend left down), (8, .arr 9 1 (some false) (strs (secs.take i)))])
    (fun i => i ≤ secs.length) (fun i => secs.length - i) 0 rfl rfl (Nat.zero_le _) ?_
  intro i hi
  by_cases hlt : i < secs.length
  · have c1 : (i : Int) < secs.length := by omega
    have c4 : IntKind.i64.wrap ((i : Int) + 1) = (i : Int) + 1 := wrap_in (by omega) (by omega)
    have e2 : secs.take (i + 1) = secs.take i ++ [secs[i]] := by rw [List.take_add_one, List.getElem?_eq_getElem hlt]; rfl
    have e3 : (secs.take i).length = i := by rw [List.length_take]; omega
    simp only [c1, c4, e3, strs_len, strs_at hlt, strs_snoc, Qs, q_exL_eq_33, q_srcO_eq_1, q_srcV_eq_2, if_true, if_false, forall_eq, bne_iff_ne, ne_eq, List.mem_cons, Nat.reduceAdd, Nat.reduceEqDiff, Nat.reduceLeDiff, Nat.reduceLT, Nat.reduceBEq, List.not_mem_nil, id @f39r16.eq_1, id @f39r17.eq_1, uu f39b18.eq_1, uu f39b19.eq_1, uu f39b20.eq_1, id @f39r21.eq_1, uu f39b22.eq_1, uu f39b23.eq_1]
    exact ⟨by omega, by omega, Next.intro (i + 1) rfl (by rw [← e2]; rfl) (by omega) (by omega)⟩
  · obtain rfl : i = secs.length := by omega
    have c1 : ¬ (secs.length : Int) < secs.length := by omega
    simp only [c1, strs_len, List.take_length, Qs, if_true, if_false, Nat.reduceAdd, Nat.reduceLeDiff, Nat.reduceBEq, uu f39b12.eq_1, id @f39r13.eq_1, uu f39b14.eq_1, uu f39b15.eq_1, uu f39b20.eq_1, id @f39r21.eq_1, uu f39b22.eq_1, uu f39b23.eq_1]
    rw [uf39l11]
    refine awl_loop (fun j : Nat => [(1, .int .i64 n), (2, .k (.ptr 2 0)), (5, .k (.own 8)), (7, .int .i64 j)])
      (fun j => [(2, objC secs pend left down), (8, .arr 9 1 (some false) (strs (perf secs (pend.take j))))])
      (fun j => j ≤ n) (fun j => n - j) 0 rfl rfl (Nat.zero_le _) ?_
    intro j hj
    by_cases hlt2 : j < n
    · have hjp : j < pend.length := by omega
      have d1 : (j : Int) < n := by omega
      have d2 : (j : Int) < pend.length := by omega
      have d4 : IntKind.i64.wrap ((j : Int) + 1) = (j : Int) + 1 := wrap_in (by omega) (by omega)
      obtain ⟨w0, w1, w2⟩ := hwr _ (List.getElem_mem hjp)
      obtain ⟨q, hq⟩ : ∃ q : Nat, pend[j].pos = q := ⟨pend[j].pos.toNat, by omega⟩
      have e1 := wrs_at hjp
      have e3 := perf_len (pend.take j) secs
      have e2 : (strs (perf secs (List.take j pend))).set q [C.str pend[j].text] = strs (perf secs (List.take (j + 1) pend)) := by
        rw [strs_set, perf_take hjp, hq, Int.toNat_natCast]
      simp only [d1, d2, d4, e1, e2, e3, hq, strs_len, wrs_len, normRows_strs, normRows_wrs, Qs, q_vFaddr_eq_3, q_vIaddr_eq_2, q_idxO_eq_1, q_stArrK_eq_1, q_storeK_eq_2, q_List_getD_cons_succ, if_true, if_false, Nat.reduceAdd, Nat.reduceLeDiff, Nat.reduceBEq, id @f39r3.eq_1, id @f39r4.eq_1, uu f39b5.eq_1, uu f39b6.eq_1, uu f39b7.eq_1, id @f39r8.eq_1, uu f39b9.eq_1, uu f39b10.eq_1]
      exact ⟨by omega, Next.intro (j + 1) rfl rfl (by omega) (by omega)⟩
    · obtain rfl : j = n := by omega
      have d1 : ¬ (j : Int) < j := by omega
      simp only [d1, strs_len, normRows_strs, Qs, if_true, List.nodup_nil, List.nodup_cons, Nat.reduceBEq, List.not_mem_nil, id @f39r1.eq_1, uu f39b2.eq_1, uu f39b7.eq_1, id @f39r8.eq_1, uu f39b9.eq_1, uu f39b10.eq_1]
      exact hS
theorem z15 (d : Disk) (h : Right d) (i : Int) (s : Txt) : Spec Tryz.prog 15 [dV d, .int .i64 i, .str s] (fun r => r = resD (writeD d i s)) := by
  refine Spec.of_awlP hf15 okf15 (by simp) fun S hS => ?_
  have c38 := r38 d h
  have hpe := h.pe
  have hlo := h.lo
  have hhi := h.hi
  obtain ⟨secs, pend, left, down⟩ := d
  unfold writeD at hS
  simp only [dV, encD] at *
  simp only [normRows_strs, normRows_wrs, Qs, if_true, bne_iff_ne, ne_eq, Nat.reduceAdd, Nat.reduceEqDiff, Nat.reduceBEq, uu f15.eq_1, id @f15r40.eq_1, uu f15b41.eq_1, id @f15r42.eq_1, uu f15b43.eq_1]
  refine call_s c38 ?_
  cases down
  · rw [if_neg (by simp)] at hS
    by_cases h1 : i < 0
    · rw [if_pos (.inl h1)] at hS
      simp only [h1, normRows_strs, normRows_wrs, Qs, if_true, if_false, List.append_nil, List.nodup_nil, Nat.reduceAdd, Nat.reduceLT, Nat.reduceBEq, Int.reduceBNe, id @f15r28.eq_1, uu f15b29.eq_1, uu f15b30.eq_1, id @f15r31.eq_1, uu f15b32.eq_1, uu f15b33.eq_1, uu f15b36.eq_1, id @f15r37.eq_1, uu f15b38.eq_1, uu f15b39.eq_1]
      exact fin_T hS (secs := []) (pend := []) rfl rfl rfl
    · by_cases h2 : i ≥ secs.length
      · rw [if_pos (.inr (.inl h2))] at hS
        simp only [h1, h2, strs_len, normRows_strs, normRows_wrs, Qs, if_true, if_false, List.append_nil, List.nodup_nil, Nat.reduceAdd, Nat.reduceLeDiff, Nat.reduceLT, Nat.reduceBEq, Int.reduceBNe, id @f15r28.eq_1, uu f15b29.eq_1, uu f15b30.eq_1, id @f15r31.eq_1, uu f15b32.eq_1, uu f15b33.eq_1, uu f15b36.eq_1, id @f15r37.eq_1, uu f15b38.eq_1, uu f15b39.eq_1]
        exact fin_T hS (secs := []) (pend := []) rfl rfl rfl
      · by_cases h3 : (s.length : Int) > 16
        · rw [if_pos (.inr (.inr (by omega)))] at hS
          simp only [h1, h2, h3, strs_len, normRows_strs, normRows_wrs, Qs, if_true, if_false, List.append_nil, List.nodup_nil, Nat.reduceAdd, Nat.reduceLeDiff, Nat.reduceLT, Nat.reduceBEq, Int.reduceBNe, id @f15r28.eq_1, uu f15b29.eq_1, uu f15b30.eq_1, id @f15r31.eq_1, uu f15b32.eq_1, uu f15b33.eq_1, uu f15b36.eq_1, id @f15r37.eq_1, uu f15b38.eq_1, uu f15b39.eq_1]
          exact fin_T hS (secs := []) (pend := []) rfl rfl rfl
        · rw [if_neg (by omega)] at hS
          by_cases h4 : (pend.length : Int) ≥ 512
          · rw [if_pos (by omega)] at hS
            simp only [h1, h2, h3, h4, strs_len, wrs_len, normRows_strs, normRows_wrs, Qs, if_true, if_false, List.append_nil, List.nodup_nil, Nat.reduceAdd, Nat.reduceLeDiff, Nat.reduceLT, Nat.reduceBEq, Int.reduceBNe, id @f15r22.eq_1, uu f15b23.eq_1, uu f15b24.eq_1, id @f15r25.eq_1, uu f15b26.eq_1, uu f15b27.eq_1, uu f15b30.eq_1, id @f15r31.eq_1, uu f15b32.eq_1, uu f15b33.eq_1, uu f15b36.eq_1, id @f15r37.eq_1, uu f15b38.eq_1, uu f15b39.eq_1]
            exact fin_T hS (secs := []) (pend := []) rfl rfl rfl
          · rw [if_neg (by omega)] at hS
            simp only [h1, h2, h3, h4, strs_len, wrs_len, normRows_strs, normRows_wrs, Qs, if_true, if_false, implies_true, bne_iff_ne, ne_eq, Nat.reduceAdd, Nat.reduceEqDiff, Nat.reduceLeDiff, Nat.reduceBEq, Int.reduceBNe, List.not_mem_nil, implies_true, uu f15b16.eq_1, id @f15r17.eq_1, uu f15b18.eq_1, uu f15b19.eq_1, id @f15r20.eq_1, uu f15b21.eq_1, uu f15b24.eq_1, id @f15r25.eq_1, uu f15b26.eq_1, uu f15b27.eq_1, uu f15b30.eq_1, id @f15r31.eq_1, uu f15b32.eq_1, uu f15b33.eq_1, uu f15b36.eq_1, id @f15r37.eq_1, uu f15b38.eq_1, uu f15b39.eq_1]
            rw [uf15l15]
            refine awl_loop (fun j : Nat => [(1, .int .i64 i), (2, .str s), (3, .k (.ptr 3 0)), (6, .k (.ptr 6 0)), (9, .k (.own 37)), (10, .int .i64 j)])
              (fun j => [(3, objC secs pend left false), (6, .var 27 [.c (.list 0 (some true) []), .c (.list 0 (some true) []), .c (.int .i64 0), .c (.bool false)]), (37, .arr 57 2 (some false) (wrs (pend.take j)))])
              (fun j => j ≤ pend.length) (fun j => pend.length - j) 0 rfl rfl (Nat.zero_le _) ?_
            intro j hj
            have e3 : (pend.take j).length = j := by rw [List.length_take]; omega
            by_cases hlt : j < pend.length
            · have c1 : (j : Int) < pend.length := by omega
              have c4 : IntKind.i64.wrap ((j : Int) + 1) = (j : Int) + 1 := wrap_in (by omega) (by omega)
              have e2 : pend.take (j + 1) = pend.take j ++ [pend[j]] := by rw [List.take_add_one, List.getElem?_eq_getElem hlt]; rfl
              simp only [c1, c4, e3, wrs_len, wrs_at hlt, wrs_snoc, normRows_strs, normRows_wrs, Qs, q_exL_eq_33, q_vRow_eq_2, q_srcO_eq_1, q_srcV_eq_2, q_V_scrub_eq_3, if_true, if_false, forall_eq, bne_iff_ne, ne_eq, List.mem_cons, Nat.reduceAdd, Nat.reduceEqDiff, Nat.reduceLeDiff, Nat.reduceLT, Nat.reduceBEq, List.not_mem_nil, id @f15r7.eq_1, id @f15r8.eq_1, uu f15b9.eq_1, uu f15b10.eq_1, uu f15b11.eq_1, id @f15r12.eq_1, uu f15b13.eq_1, uu f15b14.eq_1]
              exact ⟨by omega, by omega, Next.intro (j + 1) rfl (by rw [← e2]; rfl) (by omega) (by omega)⟩
            · obtain rfl : j = pend.length := by omega
              have c1 : ¬ (pend.length : Int) < pend.length := by omega
              have c5 : IntKind.i64.wrap (16 - (s.length : Int)) = ((16 - s.length : Nat) : Int) := by rw [wrap_in (by omega) (by omega)]; omega
              simp only [c1, c5, wrs_len, List.take_length, normRows_strs, normRows_wrs, Qs, if_true, if_false, Nat.reduceAdd, Nat.reduceLeDiff, Nat.reduceBEq, id @f15r5.eq_1, uu f15b6.eq_1, uu f15b11.eq_1, id @f15r12.eq_1, uu f15b13.eq_1, uu f15b14.eq_1]
              have e4 : wrs pend ++ [[C.int .i64 i, C.str (s ++ zeros (16 - s.length))]] = wrs (pend ++ [⟨i, s ++ zeros (16 - s.length)⟩]) := wrs_snoc pend ⟨i, s ++ zeros (16 - s.length)⟩
              have hzl : (zeros (16 - s.length)).length = 16 - s.length := by simp [zeros]
              refine call_s (r32 (16 - s.length) (by omega)) ?_
              simp only [e4, wrs_len, normRows_strs, normRows_wrs, Qs, q_exL_eq_33, q_vRow_eq_2, q_srcO_eq_1, q_srcV_eq_2, q_V_scrub_eq_3, q_C_normRows_eq_2, if_true, if_false, forall_eq, bne_iff_ne, ne_eq, List.append_nil, List.mem_cons, List.nodup_nil, List.nodup_cons, Nat.reduceAdd, Nat.reduceEqDiff, Nat.reduceLeDiff, Nat.reduceLT, Nat.reduceBEq, List.not_mem_nil, id @f15r1.eq_1, uu f15b2.eq_1, id @f15r3.eq_1, uu f15b4.eq_1]
              refine ⟨by omega, by omega, by omega, ?_⟩
              exact fin_K hS rfl rfl (norm_s _) (norm_w' _ _) rfl
  · simp only [normRows_strs, normRows_wrs, Qs, if_true, List.append_nil, List.nodup_nil, Nat.reduceAdd, Nat.reduceLT, Nat.reduceBEq, Int.reduceBNe, id @f15r34.eq_1, uu f15b35.eq_1, uu f15b36.eq_1, id @f15r37.eq_1, uu f15b38.eq_1, uu f15b39.eq_1]
    exact fin_T hS (secs := []) (pend := []) rfl rfl rfl
theorem z24 (d : Disk) (h : Right d) : Spec Tryz.prog 24 [dV d] (fun r => r = resD (flushD d)) := by
  refine Spec.of_awlP hf24 okf24 (by simp) fun S hS => ?_
  have c38 := r38 d h
  have hpe := h.pe
  have hwr := h.wr
  have hse := h.se
  have hL0 := h.l0
  have hL1 := h.l1
  have cS := z39 d h
  obtain ⟨secs, pend, left, down⟩ := d
  unfold flushD at hS
  simp only [dV, encD] at *
  simp only [normRows_strs, normRows_wrs, Qs, if_true, bne_iff_ne, ne_eq, Nat.reduceAdd, Nat.reduceEqDiff, Nat.reduceBEq, uu f24.eq_1, id @f24r30.eq_1, uu f24b31.eq_1, id @f24r32.eq_1, uu f24b33.eq_1]
  refine call_s c38 ?_
  cases down
  · rw [if_neg (by simp)] at hS
    by_cases h0 : left ≥ 0
    · by_cases h1 : left < pend.length
      · rw [if_pos ⟨h0, h1⟩] at hS
        obtain ⟨k, rfl⟩ : ∃ k : Nat, left = k := ⟨left.toNat, by omega⟩
        simp only [h0, h1, wrs_len, normRows_strs, normRows_wrs, Qs, if_true, if_false, Nat.reduceAdd, Nat.reduceLeDiff, Nat.reduceBEq, Int.reduceBNe, id @f24r16.eq_1, uu f24b17.eq_1, uu f24b18.eq_1, id @f24r19.eq_1, uu f24b20.eq_1, uu f24b21.eq_1, id @f24r22.eq_1, uu f24b23.eq_1, uu f24b26.eq_1, id @f24r27.eq_1, uu f24b28.eq_1, uu f24b29.eq_1]
        have hkp : k < pend.length := by omega
        refine call_l (cS k (by omega)) ?_
        have e1 := wrs_at hkp
        obtain ⟨w0, w1, w2⟩ := hwr _ (List.getElem_mem hkp)
        obtain ⟨q, hq⟩ : ∃ q : Nat, pend[k].pos = q := ⟨pend[k].pos.toNat, by omega⟩
        have hpl := perf_len (pend.take k) secs
        have hq1 : q < (perf secs (pend.take k)).length := by omega
        have hq2 : (q : Int) < (perf secs (pend.take k)).length := by omega
        have e3 := strs_at hq1
        have hps : ((perf secs (pend.take k))[q]'hq1).length = 16 := perf_se (pend.take k) secs hse (fun w hw => (hwr w (List.mem_of_mem_take hw)).2.2) _ (List.getElem_mem _)
        have hk2 : (k : Int) < pend.length := by omega
        have e4 : (strs (perf secs (pend.take k))).set q [C.str (pend[k].text.take 8 ++ ((perf secs (pend.take k))[q]'hq1).drop 8)] = strs ((perf secs (pend.take k)).set q (pend[k].text.take 8 ++ ((perf secs (pend.take k))[q]'hq1).drop 8)) := strs_set _ _ _
        have c36 : List.take ((perf secs (pend.take k))[q]'hq1).length ((perf secs (pend.take k))[q]'hq1) = ((perf secs (pend.take k))[q]'hq1) := List.take_length
        simp only [h0, h1, e1, hq, hq2, e3, e4, c36, hk2, strs_len, wrs_len, normRows_strs, normRows_wrs, Qs, q_loadO_eq_2, q_isA_eq_1, q_vLoad_eq_3, q_vIaddr_eq_2, q_idxO_eq_1, q_stArrK_eq_1, q_storeK_eq_2, if_true, if_false, bne_iff_ne, ne_eq, Int.reduceNeg, List.append_nil, List.nodup_nil, List.nodup_cons, Nat.reduceAdd, Nat.reduceEqDiff, Nat.reduceLeDiff, Nat.reduceLT, Nat.reduceBEq, Int.reduceLE, Int.reduceToNat, List.not_mem_nil, id @f24r10.eq_1, uu f24b11.eq_1, id @f24r12.eq_1, uu f24b13.eq_1, id @f24r14.eq_1, uu f24b15.eq_1]
        rw [Int.toNat_natCast, List.getD_eq_getElem?_getD, List.getElem?_eq_getElem hkp, Option.getD_some, hq, Int.toNat_natCast, List.getD_eq_getElem?_getD, List.getElem?_eq_getElem hq1, Option.getD_some] at hS
        refine ⟨by omega, ⟨by omega, Int.le_refl _⟩, by simp only [List.length_take, List.length_drop, hps, w2]; decide, ?_⟩
        exact fin_K hS rfl rfl (norm_s' _ _) (norm_w []) rfl
      · rw [if_neg (by omega), if_pos h0] at hS
        simp only [h0, h1, wrs_len, normRows_strs, normRows_wrs, Qs, if_true, if_false, Int.reduceNeg, Nat.reduceAdd, Nat.reduceLeDiff, Nat.reduceBEq, Int.reduceBNe, id @f24r8.eq_1, uu f24b9.eq_1, uu f24b18.eq_1, id @f24r19.eq_1, uu f24b20.eq_1, uu f24b21.eq_1, id @f24r22.eq_1, uu f24b23.eq_1, uu f24b26.eq_1, id @f24r27.eq_1, uu f24b28.eq_1, uu f24b29.eq_1]
        refine call_l (cS pend.length (Nat.le_refl _)) ?_
        have w1 : IntKind.i64.wrap (left - (pend.length : Int)) = left - pend.length := wrap_in (by omega) (by omega)
        simp only [h0, w1, List.take_length, strs_len, wrs_len, normRows_strs, normRows_wrs, Qs, q_V_noRef_eq_3, if_true, if_false, bne_iff_ne, ne_eq, Int.reduceNeg, List.append_nil, List.nodup_nil, List.nodup_cons, Nat.reduceAdd, Nat.reduceEqDiff, Nat.reduceLeDiff, Nat.reduceLT, Nat.reduceBEq, List.not_mem_nil, id @f24r1.eq_1, uu f24b2.eq_1, id @f24r3.eq_1, uu f24b4.eq_1, id @f24r5.eq_1, uu f24b6.eq_1, uu f24b7.eq_1]
        exact fin_K hS rfl rfl (norm_s' _ _) (norm_w []) rfl
    · rw [if_neg (by omega), if_neg h0] at hS
      simp only [h0, wrs_len, normRows_strs, normRows_wrs, Qs, if_true, if_false, Int.reduceNeg, Nat.reduceAdd, Nat.reduceLeDiff, Nat.reduceBEq, Int.reduceBNe, id @f24r8.eq_1, uu f24b9.eq_1, uu f24b18.eq_1, id @f24r19.eq_1, uu f24b20.eq_1, uu f24b21.eq_1, id @f24r22.eq_1, uu f24b23.eq_1, uu f24b26.eq_1, id @f24r27.eq_1, uu f24b28.eq_1, uu f24b29.eq_1]
      refine call_l (cS pend.length (Nat.le_refl _)) ?_
      simp only [h0, List.take_length, strs_len, wrs_len, normRows_strs, normRows_wrs, Qs, q_V_noRef_eq_3, q_V_noRef_eq_5, if_true, if_false, bne_iff_ne, ne_eq, Int.reduceNeg, List.append_nil, List.nodup_nil, List.nodup_cons, Nat.reduceAdd, Nat.reduceEqDiff, Nat.reduceLeDiff, Nat.reduceLT, Nat.reduceBEq, List.not_mem_nil, id @f24r1.eq_1, uu f24b2.eq_1, id @f24r3.eq_1, uu f24b4.eq_1, id @f24r5.eq_1, uu f24b6.eq_1, uu f24b7.eq_1]
      exact fin_K hS rfl rfl (norm_s' _ _) (norm_w []) rfl
  · simp only [normRows_strs, normRows_wrs, Qs, if_true, List.append_nil, List.nodup_nil, Nat.reduceAdd, Nat.reduceLT, Nat.reduceBEq, Int.reduceBNe, id @f24r24.eq_1, uu f24b25.eq_1, uu f24b26.eq_1, id @f24r27.eq_1, uu f24b28.eq_1, uu f24b29.eq_1]
    exact fin_T hS (secs := []) (pend := []) rfl rfl rfl
theorem z10 (d : Disk) (h1 : d.secs.length ≤ 512) (h2 : d.pend.length ≤ 512) : Spec Tryz.prog 10 [dV d, dV d] (fun r => r = .bool true) := by
  refine Spec.of_awlS hf10 okf10 (by simp) fun S hS => ?_
  obtain ⟨secs, pend, left, down⟩ := d
  simp only [] at h1 h2
  simp only [dV, encD] at *
  have q0 : (down == down) = true := by simp
  simp only [strs_len, wrs_len, normRows_strs, normRows_wrs, Qs, q_AOp_dst_eq_11, q_exL_eq_12, q_vBinB_eq_1, if_true, if_false, forall_const, bne_iff_ne, ne_eq, BEq.rfl, List.nodup_nil, Nat.reduceAdd, Nat.reduceEqDiff, Nat.reduceLeDiff, Nat.reduceBEq, uu f10.eq_1, uu f10b33.eq_1, id @f10r34.eq_1, uu f10b35.eq_1, uu f10b36.eq_1, id @f10r37.eq_1, uu f10b38.eq_1, uu f10b39.eq_1, id @f10r40.eq_1, uu f10b41.eq_1, uu f10b42.eq_1, id @f10r43.eq_1, uu f10b44.eq_1]
  rw [uf10l32]
  refine awl_loop (fun i : Nat => [(2, .k (.ptr 2 0)), (3, .k (.ptr 3 0)), (5, .int .i64 i)]) (fun _ => [(2, objC secs pend left down), (3, objC secs pend left down)])
    (fun i => i ≤ secs.length) (fun i => secs.length - i) 0 rfl rfl (Nat.zero_le _) ?_
  intro i hi
  by_cases hlt : i < secs.length
  · have c1 : (i : Int) < secs.length := by omega
    have c4 : IntKind.i64.wrap ((i : Int) + 1) = (i : Int) + 1 := wrap_in (by omega) (by omega)
    simp only [c1, c4, strs_len, strs_at hlt, Qs, if_true, if_false, BEq.rfl, Nat.reduceAdd, Nat.reduceLeDiff, Nat.reduceBEq, id @f10r20.eq_1, uu f10b23.eq_1, id @f10r24.eq_1, uu f10b25.eq_1, uu f10b26.eq_1, uu f10b27.eq_1, uu f10b28.eq_1, id @f10r29.eq_1, uu f10b30.eq_1, uu f10b31.eq_1]
    exact Next.intro (i + 1) rfl rfl (by omega) (by omega)
  · have c1 : ¬ (i : Int) < secs.length := by omega
    simp only [c1, strs_len, Qs, if_true, if_false, Nat.reduceAdd, Nat.reduceLeDiff, Nat.reduceBEq, uu f10b16.eq_1, id @f10r17.eq_1, uu f10b18.eq_1, uu f10b19.eq_1, uu f10b28.eq_1, id @f10r29.eq_1, uu f10b30.eq_1, uu f10b31.eq_1]
    rw [uf10l15]
    refine awl_loop (fun i : Nat => [(2, .k (.ptr 2 0)), (3, .k (.ptr 3 0)), (6, .int .i64 i)]) (fun _ => [(2, objC secs pend left down), (3, objC secs pend left down)])
      (fun i => i ≤ pend.length) (fun i => pend.length - i) 0 rfl rfl (Nat.zero_le _) ?_
    intro i hi
    by_cases hlt : i < pend.length
    · have c1 : (i : Int) < pend.length := by omega
      have c4 : IntKind.i64.wrap ((i : Int) + 1) = (i : Int) + 1 := wrap_in (by omega) (by omega)
      simp only [c1, c4, wrs_len, wrs_at hlt, Qs, q_exLQ_eq_14, q_vEqAgg_eq_1, q_mapV_eq_1, q_eqRow_eq_1, q_eqRow_eq_2, q_eqC_eq_1, q_eqC_eq_3, if_true, if_false, BEq.rfl, Nat.reduceAdd, Nat.reduceLeDiff, Nat.reduceBEq, Option.bind_some, id @f10r3.eq_1, uu f10b6.eq_1, id @f10r7.eq_1, uu f10b8.eq_1, uu f10b9.eq_1, uu f10b10.eq_1, uu f10b11.eq_1, id @f10r12.eq_1, uu f10b13.eq_1, uu f10b14.eq_1]
      exact Next.intro (i + 1) rfl rfl (by omega) (by omega)
    · have c1 : ¬ (i : Int) < pend.length := by omega
      simp only [c1, wrs_len, Qs, if_true, if_false, List.nodup_nil, Nat.reduceAdd, Nat.reduceLeDiff, Nat.reduceBEq, id @f10r1.eq_1, uu f10b2.eq_1, uu f10b11.eq_1, id @f10r12.eq_1, uu f10b13.eq_1, uu f10b14.eq_1]
      exact hS
end Go.Abs


set_option maxRecDepth 100000
set_option maxHeartbeats 4000000
namespace Go.Abs
open Go.Proofs Go.Wire Go.RowKit Go.Jr
theorem z22 (d : Disk) (h : Right d) : Spec Tryz.prog 22 [dV d] (fun r => r = .int .i64 (readyD d)) := by
  refine Spec.of_awlS hf22 okf22 (by simp) fun S hS => ?_
  have c34 := r39 d h
  obtain ⟨secs, pend, left, down⟩ := d
  unfold readyD at hS
  simp only [dV, encD] at *
  simp only [normRows_strs, normRows_wrs, Qs, if_true, Nat.reduceAdd, Nat.reduceBEq, uu f22.eq_1, id @f22r21.eq_1, uu f22b22.eq_1, id @f22r23.eq_1, uu f22b24.eq_1]
  refine call_s c34 ?_
  cases down
  · cases pend with
    | nil =>
      simp only [wrs_len, Qs, if_true, if_false, List.nodup_nil, Nat.reduceAdd, Nat.reduceLeDiff, Nat.reduceBEq, Int.reduceGT, Int.reduceBNe, id @f22r1.eq_1, uu f22b2.eq_1, uu f22b5.eq_1, id @f22r6.eq_1, uu f22b7.eq_1, uu f22b8.eq_1, uu f22b11.eq_1, id @f22r12.eq_1, uu f22b13.eq_1, uu f22b14.eq_1, uu f22b17.eq_1, id @f22r18.eq_1, uu f22b19.eq_1, uu f22b20.eq_1]
      exact hS
    | cons a l =>
      have c1 : ((a :: l).length : Int) > 0 := by rw [List.length_cons]; omega
      simp only [wrs_len, Qs, if_true, if_false, List.nodup_nil, Nat.reduceAdd, Nat.reduceLeDiff, Nat.reduceBEq, Int.reduceBNe, id @f22r1.eq_1, uu f22b2.eq_1, id @f22r3.eq_1, uu f22b4.eq_1, uu f22b5.eq_1, id @f22r6.eq_1, uu f22b7.eq_1, uu f22b8.eq_1, uu f22b11.eq_1, id @f22r12.eq_1, uu f22b13.eq_1, uu f22b14.eq_1, uu f22b17.eq_1, id @f22r18.eq_1, uu f22b19.eq_1, uu f22b20.eq_1]
      exact ⟨fun _ => hS, fun g => absurd (by omega) g⟩
  · simp only [Qs, if_true, if_false, List.nodup_nil, Nat.reduceAdd, Nat.reduceBEq, Int.reduceBNe, id @f22r9.eq_1, uu f22b10.eq_1, uu f22b11.eq_1, id @f22r12.eq_1, uu f22b13.eq_1, uu f22b14.eq_1, uu f22b17.eq_1, id @f22r18.eq_1, uu f22b19.eq_1, uu f22b20.eq_1]
    exact hS
theorem z25 (l : List Txt) (h : ∀ s ∈ l, s.length ≤ 2000) (h2 : (wN wS l).length ≤ 1000000000) : Spec Tryz.prog 25 [lst 1 (strs l)] (fun r => r = .int .i64 ((wN wS l).length : Int)) := by
  refine Spec.of_len hf25 fun hlen => ?_
  have hl := len_lst (sz := 1) (rows := strs l) List.mem_cons_self hlen
  rw [strs_len] at hl
  clear hlen
  refine Spec.of_awlS hf25 okf25 (by simp) fun S hS => ?_
  simp only [Qs, uu f25.eq_1, uu f25b12.eq_1, id @f25r13.eq_1, uu f25b14.eq_1, uu f25b15.eq_1, id @f25r16.eq_1, uu f25b17.eq_1, id @f25r18.eq_1, uu f25b19.eq_1]
  rw [uf25l11]
  refine awl_loop (fun i : Nat => [(0, lst 1 (strs l)), (3, .int .i64 ((wN wS (l.take i)).length : Int)), (4, .int .i64 i)]) (fun _ => []) (fun i => i ≤ l.length) (fun i => l.length - i) 0 rfl rfl (Nat.zero_le _) ?_
  intro i hi
  by_cases hlt : i < l.length
  · have c1 : (i : Int) < l.length := by omega
    have c4 : IntKind.i64.wrap ((i : Int) + 1) = (i : Int) + 1 := wrap_in (by omega) (by omega)
    have hs := h _ (List.getElem_mem hlt)
    have e2 : l.take (i + 1) = l.take i ++ [l[i]] := by rw [List.take_add_one, List.getElem?_eq_getElem hlt]; rfl
    have hw := wN_app wS (l.take (i + 1)) (l.drop (i + 1))
    rw [List.take_append_drop] at hw
    have hw2 := congrArg List.length hw
    rw [List.length_append, e2, wN_app, wN_one, List.length_append] at hw2
    have c5 : IntKind.i64.wrap (((wN wS (l.take i)).length : Int) + ((wS l[i]).length : Int)) = ((wN wS (l.take (i + 1))).length : Int) := by
      rw [e2, wN_app, wN_one, List.length_append, wrap_in (by omega) (by omega)]; omega
    simp only [c1, c4, strs_len, strs_at hlt, Qs, if_true, Nat.reduceBEq, id @f25r3.eq_1, id @f25r4.eq_1, uu f25b5.eq_1, uu f25b6.eq_1, uu f25b7.eq_1, id @f25r8.eq_1, uu f25b9.eq_1, uu f25b10.eq_1]
    refine call_s (w12 l[i] (by omega)) ?_
    simp only [c1, c4, c5, strs_len, strs_at hlt, Qs, if_true, Nat.reduceBEq]
    exact Next.intro (i + 1) rfl rfl (by omega) (by omega)
  · obtain rfl : i = l.length := by omega
    have c1 : ¬ (l.length : Int) < l.length := by omega
    simp only [c1, strs_len, List.take_length, Qs, if_true, List.nodup_nil, Nat.reduceBEq, id @f25r1.eq_1, uu f25b2.eq_1, uu f25b7.eq_1, id @f25r8.eq_1, uu f25b9.eq_1, uu f25b10.eq_1]
    exact hS
def curI (d : Disk) : Int := match curD (numT (d.secs.getD 0 [])) (numT (d.secs.getD 1 [])) with | none => -1 | some p => p.1
theorem z27 (d : Disk) (h : Right d) (h2 : 2 ≤ d.secs.length) : Spec Tryz.prog 27 [dV d] (fun r => r = .int .i64 (curI d)) := by
  refine Spec.of_awlS hf27 okf27 (by simp) fun S hS => ?_
  have hse := h.se
  obtain ⟨secs, pend, left, down⟩ := d
  simp only [] at h2
  have g0 := strs_at (l := secs) (i := 0) (by omega)
  have g1 := strs_at (l := secs) (i := 1) (by omega)
  have p0 : (0 : Int) < secs.length := by omega
  have p1 : (1 : Int) < secs.length := by omega
  have d0 : secs.getD 0 [] = secs[0] := by rw [List.getD_eq_getElem?_getD, List.getElem?_eq_getElem (by omega)]; rfl
  have d1 : secs.getD 1 [] = secs[1] := by rw [List.getD_eq_getElem?_getD, List.getElem?_eq_getElem (by omega)]; rfl
  have c0 := r15 secs[0] (hse _ (List.getElem_mem _))
  have c1 := r15 secs[1] (hse _ (List.getElem_mem _))
  unfold curI at hS
  simp only [] at hS
  rw [d0, d1] at hS
  simp only [dV, encD] at *
  simp only [g0, g1, p0, p1, strs_len, normRows_strs, normRows_wrs, Qs, if_false, Nat.reduceAdd, Nat.reduceLeDiff, Nat.reduceBEq, Int.reduceLE, uu f27.eq_1, id @f27r17.eq_1, uu f27b18.eq_1, id @f27r19.eq_1, uu f27b20.eq_1]
  refine call_s c0 ?_
  simp only [g0, g1, p0, p1, strs_len, normRows_strs, normRows_wrs, Qs, if_false, Nat.reduceAdd, Nat.reduceLeDiff, Nat.reduceBEq, Int.reduceLE, Int.reduceToNat, id @f27r15.eq_1, uu f27b16.eq_1]
  refine call_s c1 ?_
  cases hA : numT secs[0] with
  | none =>
    cases hB : numT secs[1] with
    | none =>
      rw [hA, hB] at hS
      simp only [numI, Qs, if_true, Int.reduceNeg, List.nodup_nil, Nat.reduceBEq, Int.reduceLT, id @f27r9.eq_1, uu f27b10.eq_1, uu f27b11.eq_1, id @f27r12.eq_1, uu f27b13.eq_1, uu f27b14.eq_1]
      exact hS
    | some m =>
      rw [hA, hB] at hS
      have e1 : ¬ (m : Int) < 0 := by omega
      have e2 : (m : Int) > -1 := by omega
      simp only [numI, e1, e2, Qs, if_true, Int.reduceNeg, List.nodup_nil, Nat.reduceBEq, Int.reduceLT, id @f27r3.eq_1, uu f27b4.eq_1, uu f27b5.eq_1, id @f27r6.eq_1, uu f27b7.eq_1, uu f27b8.eq_1, uu f27b11.eq_1, id @f27r12.eq_1, uu f27b13.eq_1, uu f27b14.eq_1]
      exact hS
  | some n =>
    have e0 : ¬ (n : Int) < 0 := by omega
    cases hB : numT secs[1] with
    | none =>
      rw [hA, hB] at hS
      have e2 : ¬ (-1 : Int) > n := by omega
      simp only [numI, e0, e2, Qs, if_true, Int.reduceNeg, List.nodup_nil, Nat.reduceBEq, id @f27r1.eq_1, uu f27b2.eq_1, uu f27b5.eq_1, id @f27r6.eq_1, uu f27b7.eq_1, uu f27b8.eq_1, uu f27b11.eq_1, id @f27r12.eq_1, uu f27b13.eq_1, uu f27b14.eq_1]
      exact hS
    | some m =>
      rw [hA, hB] at hS
      have e1 : ¬ (m : Int) < 0 := by omega
      by_cases hmn : m > n
      · have e2 : (m : Int) > n := by omega
        simp only [curD, if_pos hmn] at hS
        simp only [numI, e0, e1, e2, Qs, if_true, List.nodup_nil, Nat.reduceBEq, id @f27r3.eq_1, uu f27b4.eq_1, uu f27b5.eq_1, id @f27r6.eq_1, uu f27b7.eq_1, uu f27b8.eq_1, uu f27b11.eq_1, id @f27r12.eq_1, uu f27b13.eq_1, uu f27b14.eq_1]
        exact hS
      · have e2 : ¬ (m : Int) > n := by omega
        simp only [curD, if_neg hmn] at hS
        simp only [numI, e0, e1, e2, Qs, if_true, List.nodup_nil, Nat.reduceBEq, id @f27r1.eq_1, uu f27b2.eq_1, uu f27b5.eq_1, id @f27r6.eq_1, uu f27b7.eq_1, uu f27b8.eq_1, uu f27b11.eq_1, id @f27r12.eq_1, uu f27b13.eq_1, uu f27b14.eq_1]
        exact hS
end Go.Abs


set_option maxRecDepth 100000
set_option maxHeartbeats 4000000
namespace Go.Abs
open Go.Proofs Go.Wire Go.RowKit Go.Jr
theorem fin_L {S : V → Prop} {X : V} (h : ∀ r, r.fz.nrm = X → S r) {k : K} {c : C} {e : Int} {l : List Txt} (e1 : k.fz = .c c) (h1 : c.norm = lstC 1 (strs l)) (hX : X = .tup [lst 1 (strs l), .int .i64 e]) : S (.tup [.k k, .k (.c (.int .i64 e))]) := by
  refine h _ ?_
  rw [hX]
  show V.tup [.k (k.fz.nrm), .k (.c (C.norm (.int .i64 e)))] = _
  rw [e1]
  show V.tup [.k (.c c.norm), _] = _
  rw [h1, norm_int]
def allB (n : Nat) (bytes : Txt) : List Txt × Int := match pz n bytes with
  | none => ([], 22)
  | some l => if l.length > 500 then ([], 22) else (l, 0)
def allJ (d : Disk) : List Txt × Int :=
  if readyD d ≠ 0 then ([], readyD d)
  else if d.secs.length ≤ 2 then ([], 22)
  else match curD (numT (d.secs.getD 0 [])) (numT (d.secs.getD 1 [])) with
    | none => ([], 22)
    | some (_, n) => if n > (logD d).length then ([], 22) else allB n ((logD d).take n)
theorem allJ_eq (d : Disk) : allJ d = ((readJ d).1.list, (readJ d).2) := by
  unfold allJ readJ
  by_cases h1 : readyD d ≠ 0
  · rw [if_pos h1, if_pos h1]
  · rw [if_neg h1, if_neg h1]
    by_cases h2 : d.secs.length ≤ 2
    · rw [if_pos h2, if_pos h2]
    · rw [if_neg h2, if_neg h2]
      cases curD (numT (d.secs.getD 0 [])) (numT (d.secs.getD 1 [])) with
      | none => rfl
      | some p =>
        obtain ⟨c, n⟩ := p
        simp only []
        by_cases h3 : n > (logD d).length
        · rw [if_pos h3, if_pos h3]
        · rw [if_neg h3, if_neg h3, allB]
          cases pz n ((logD d).take n) with
          | none => rfl
          | some l =>
            simp only []
            by_cases h4 : l.length > 500
            · rw [if_pos h4, if_pos h4]
            · rw [if_neg h4, if_neg h4]
theorem z16 (d : Disk) (h : Right d) : Spec Tryz.prog 16 [dV d] (fun r => r = .tup [lst 1 (strs (readJ d).1.list), .int .i64 (readJ d).2]) := by
  refine Spec.of_awlP hf16 okf16 (by simp) fun S hS => ?_
  have c22 := z22 d h
  have c27 := z27 d h
  have c36 := r13 d h
  have hse := h.se
  have hhi := h.hi
  have hll := log_le h
  obtain ⟨secs, pend, left, down⟩ := d
  rw [show ((readJ ⟨secs, pend, left, down⟩).1.list : List Txt) = (allJ ⟨secs, pend, left, down⟩).1 by rw [allJ_eq], show ((readJ ⟨secs, pend, left, down⟩).2 : Int) = (allJ ⟨secs, pend, left, down⟩).2 by rw [allJ_eq]] at hS
  unfold allJ at hS
  unfold curI at c27
  simp only [dV, encD] at *
  simp only [normRows_strs, normRows_wrs, Qs, if_true, bne_iff_ne, ne_eq, Nat.reduceAdd, Nat.reduceEqDiff, Nat.reduceBEq, uu f16.eq_1, id @f16r54.eq_1, uu f16b55.eq_1, id @f16r56.eq_1, uu f16b57.eq_1]
  refine call_s c22 ?_
  by_cases hr : readyD ⟨secs, pend, left, down⟩ = 0
  · rw [if_neg (by simp [hr])] at hS
    by_cases h2 : (secs.length : Int) < 3
    · simp only [hr, h2, strs_len, normRows_strs, normRows_wrs, Qs, q_V_noRef_eq_5, if_true, if_false, bne_iff_ne, ne_eq, Bool.true_or, BEq.rfl, List.append_nil, List.nodup_nil, List.nodup_cons, Nat.reduceAdd, Nat.reduceEqDiff, Nat.reduceLeDiff, Nat.reduceBEq, Int.reduceBNe, List.not_mem_nil, id @f16r42.eq_1, uu f16b43.eq_1, uu f16b44.eq_1, id @f16r45.eq_1, uu f16b46.eq_1, uu f16b47.eq_1, uu f16b50.eq_1, id @f16r51.eq_1, uu f16b52.eq_1, uu f16b53.eq_1]
      rw [if_pos (show secs.length ≤ 2 by omega)] at hS
      exact fin_L hS (l := []) rfl rfl rfl
    · rw [if_neg (show ¬ secs.length ≤ 2 by omega)] at hS
      have c27 := c27 (by omega)
      simp only [hr, h2, strs_len, normRows_strs, normRows_wrs, Qs, if_true, if_false, Nat.reduceAdd, Nat.reduceLeDiff, Nat.reduceBEq, Int.reduceBNe, id @f16r45.eq_1, uu f16b46.eq_1, uu f16b47.eq_1, uu f16b50.eq_1, id @f16r51.eq_1, uu f16b52.eq_1, uu f16b53.eq_1]
      refine call_s c27 ?_
      cases hc : curD (numT (secs.getD 0 [])) (numT (secs.getD 1 [])) with
      | none =>
        rw [hc] at hS
        simp only [hr, h2, hc, strs_len, normRows_strs, normRows_wrs, Qs, if_true, if_false, bne_iff_ne, ne_eq, Bool.true_or, Int.reduceNeg, BEq.rfl, List.append_nil, List.nodup_nil, List.nodup_cons, Nat.reduceEqDiff, Nat.reduceBEq, Int.reduceLT, List.not_mem_nil, id @f16r42.eq_1, uu f16b43.eq_1, uu f16b44.eq_1]
        exact fin_L hS (l := []) rfl rfl rfl
      | some p =>
        obtain ⟨c, n⟩ := p
        rw [hc] at hS c27
        simp only [] at hS c27
        have h01 := curD_01 hc
        have e0 : ¬ c < 0 := by omega
        obtain ⟨q, rfl⟩ : ∃ q : Nat, c = q := ⟨c.toNat, by omega⟩
        have hq : q < secs.length := by omega
        have hq2 : (q : Int) < secs.length := by omega
        have hnum : numT (secs[q]) = some n := by
          have d0 : secs.getD 0 [] = secs[0] := by rw [List.getD_eq_getElem?_getD, List.getElem?_eq_getElem (by omega)]; rfl
          have d1 : secs.getD 1 [] = secs[1] := by rw [List.getD_eq_getElem?_getD, List.getElem?_eq_getElem (by omega)]; rfl
          rw [d0, d1] at hc
          generalize hA : numT secs[0] = A at hc
          generalize hB : numT secs[1] = B at hc
          rcases h01 with h01 | h01
          · obtain rfl : q = 0 := by omega
            rw [hA]
            cases A <;> cases B <;> simp only [curD] at hc
            · cases hc
            · cases hc
            · cases hc; rfl
            · split at hc
              · cases hc
              · cases hc; rfl
          · obtain rfl : q = 1 := by omega
            rw [hB]
            cases A <;> cases B <;> simp only [curD] at hc
            · cases hc
            · cases hc; rfl
            · cases hc
            · split at hc
              · cases hc; rfl
              · cases hc
        have c37 := r15 secs[q] (hse _ (List.getElem_mem _))
        rw [hnum] at c37
        simp only [hr, h2, hc, e0, strs_len, normRows_strs, normRows_wrs, Qs, if_true, if_false, Nat.reduceAdd, Nat.reduceBEq, id @f16r40.eq_1, uu f16b41.eq_1, uu f16b44.eq_1]
        refine call_s c36 ?_
        simp only [hq2, strs_at hq, strs_len, normRows_strs, normRows_wrs, Qs, if_true, if_false, Nat.reduceAdd, Nat.reduceLeDiff, Nat.reduceBEq, id @f16r38.eq_1, uu f16b39.eq_1]
        refine callQ_s c27 ?_
        simp only [V.fz, Abs.K.fz, hq2, strs_at hq, strs_len, normRows_strs, normRows_wrs, Qs, Nat.reduceBEq]
        refine callQ_s c37 ?_
        simp only [V.fz, Abs.K.fz, numI]
        generalize logD ⟨secs, pend, left, down⟩ = log at hS hll ⊢
        by_cases hN : (n : Int) > log.length
        · rw [if_pos (by omega)] at hS
          simp only [hN, strs_len, normRows_strs, normRows_wrs, Qs, if_true, bne_iff_ne, ne_eq, Bool.true_or, BEq.rfl, List.append_nil, List.nodup_nil, List.nodup_cons, Nat.reduceEqDiff, Nat.reduceBEq, List.not_mem_nil, id @f16r32.eq_1, uu f16b33.eq_1, uu f16b34.eq_1, id @f16r35.eq_1, uu f16b36.eq_1, uu f16b37.eq_1]
          exact fin_L hS (l := []) rfl rfl rfl
        · rw [if_neg (by omega)] at hS
          simp only [hN, strs_len, normRows_strs, normRows_wrs, Qs, if_true, bne_iff_ne, ne_eq, Nat.reduceEqDiff, Nat.reduceBEq, Int.reduceLE, uu f16b26.eq_1, uu f16b27.eq_1, id @f16r28.eq_1, uu f16b29.eq_1, id @f16r30.eq_1, uu f16b31.eq_1, uu f16b34.eq_1, id @f16r35.eq_1, uu f16b36.eq_1, uu f16b37.eq_1]
          refine ⟨by omega, ?_⟩
          have hbl : (log.take n).length ≤ 8192 := by rw [List.length_take]; omega
          have hbn : (log.take n).length ≤ n := by rw [List.length_take]; omega
          generalize log.take n = bytes at hS hbl hbn
          unfold allB at hS
          rw [uf16l25]
          refine awl_loop (fun x : List Txt × Txt => [(7, .str x.2), (8, .k (.own 8))]) (fun x => [(8, .arr 9 1 (nlApp (some true) (strs x.1)) (strs x.1))])
            (fun x => x.1.length + x.2.length ≤ bytes.length ∧ ∃ k, x.2.length ≤ k ∧ (pz k x.2).map (x.1 ++ ·) = pz n bytes) (fun x => x.2.length) ([], bytes) rfl rfl ⟨by simp, n, hbn, by cases pz n bytes <;> simp⟩ ?_
          rintro ⟨acc, rest⟩ ⟨g1, k, g3, g4⟩
          simp only [] at g1 g3 g4
          match rest, g1, g3, g4 with
          | [], g1, g3, g4 =>
            have g5 : pz n bytes = some acc := by rw [← g4]; cases k <;> simp [pz]
            rw [g5] at hS
            simp only [] at hS
            simp only [List.length_nil, strs_len, Qs, q_vLen_eq_2, q_lenO_eq_1, if_true, bne_iff_ne, ne_eq, List.append_nil, List.nodup_nil, List.nodup_cons, Nat.reduceEqDiff, Nat.reduceBEq, Int.reduceGT, List.not_mem_nil, id @f16r1.eq_1, uu f16b2.eq_1, id @f16r3.eq_1, uu f16b4.eq_1, uu f16b5.eq_1, id @f16r6.eq_1, uu f16b7.eq_1, uu f16b8.eq_1, uu f16b21.eq_1, id @f16r22.eq_1, uu f16b23.eq_1, uu f16b24.eq_1]
            refine ⟨fun g => ?_, fun g => ?_⟩
            · rw [if_pos (by omega)] at hS
              exact fin_L hS (l := []) rfl rfl rfl
            · rw [if_neg (by omega)] at hS
              rw [normRows_strs]
              exact fin_L hS rfl (norm_s' _ _) rfl
          | c :: t, g1, g3, g4 =>
            have hgt : ((c :: t).length : Int) > 0 := by rw [List.length_cons]; omega
            obtain ⟨k', rfl⟩ : ∃ k', k = k' + 1 := ⟨k - 1, by simp only [List.length_cons] at g3; omega⟩
            have hpz : pz (k' + 1) (c :: t) = (rS (c :: t)).bind fun p => if p.1.length > 2000 then none else (pz k' p.2).map (p.1 :: ·) := rfl
            generalize (c :: t : Txt) = rest at g1 g3 g4 hgt hpz
            rw [hpz] at g4
            have c38 := w20 rest (by omega)
            have hbad : pz n bytes = none → ∀ r, r.fz.nrm = .tup [lst 1 (strs []), .int .i64 22] → S r := by
              intro hp; rw [hp] at hS; exact hS
            simp only [hgt, strs_len, Qs, if_true, Nat.reduceBEq, id @f16r18.eq_1, uu f16b19.eq_1, uu f16b20.eq_1, uu f16b21.eq_1, id @f16r22.eq_1, uu f16b23.eq_1, uu f16b24.eq_1]
            refine call_s c38 ?_ (hr := resS_scalar _)
            cases hs : rS rest with
            | none =>
              rw [hs] at g4
              have hb2 := hbad (by rw [← g4]; rfl)
              simp only [resS, Qs, q_V_noRef_eq_5, if_true, bne_iff_ne, ne_eq, List.append_nil, List.nodup_nil, List.nodup_cons, Nat.reduceEqDiff, Nat.reduceBEq, List.not_mem_nil, id @f16r12.eq_1, uu f16b13.eq_1, uu f16b14.eq_1, id @f16r15.eq_1, uu f16b16.eq_1, uu f16b17.eq_1]
              exact fin_L hb2 (l := []) rfl rfl rfl
            | some p =>
              obtain ⟨s, r⟩ := p
              rw [hs] at g4
              have h1 := ((reads_S rest s r).1 hs).2
              have h2' : 2 ≤ (wS s).length := wS_len ((reads_S rest s r).1 hs).1
              have hrl : r.length + 2 ≤ rest.length := by rw [h1, List.length_append]; omega
              simp only [Option.bind_some] at g4
              by_cases h5 : (s.length : Int) > 2000
              · rw [if_pos (show s.length > 2000 by omega)] at g4
                have hb2 := hbad (by rw [← g4]; rfl)
                simp only [h5, resS, Qs, if_true, if_false, bne_iff_ne, ne_eq, List.append_nil, List.nodup_nil, List.nodup_cons, Nat.reduceEqDiff, Nat.reduceBEq, List.not_mem_nil, id @f16r12.eq_1, uu f16b13.eq_1, uu f16b14.eq_1, id @f16r15.eq_1, uu f16b16.eq_1, uu f16b17.eq_1]
                exact fin_L hb2 (l := []) rfl rfl rfl
              · rw [if_neg (show ¬ s.length > 2000 by omega)] at g4
                have g4' : (pz k' r).map ((acc ++ [s]) ++ ·) = pz n bytes := by
                  rw [← g4]
                  cases pz k' r <;> simp
                simp only [h5, resS, strs_snoc, strs_len, Qs, q_exL_eq_33, q_srcO_eq_1, q_srcV_eq_2, q_V_scrub_eq_5, if_true, if_false, forall_eq, bne_iff_ne, ne_eq, List.mem_cons, Nat.reduceEqDiff, Nat.reduceLeDiff, Nat.reduceLT, Nat.reduceBEq, List.not_mem_nil, id @f16r9.eq_1, id @f16r10.eq_1, uu f16b11.eq_1, uu f16b14.eq_1, id @f16r15.eq_1, uu f16b16.eq_1, uu f16b17.eq_1]
                have e : nlApp (some true) (strs (acc ++ [s])) = some false := by cases acc <;> rfl
                exact ⟨by omega, by omega, Next.intro (acc ++ [s], r) rfl (by simp only [e]; rfl) ⟨by show (acc ++ [s]).length + r.length ≤ bytes.length; rw [List.length_append, List.length_singleton]; omega, k', by show r.length ≤ k'; omega, g4'⟩ (by show r.length < rest.length; omega)⟩
  · have hr1 : (readyD ⟨secs, pend, left, down⟩ != 0) = true := by simpa using hr
    simp only [hr1, normRows_strs, normRows_wrs, Qs, if_true, bne_iff_ne, ne_eq, Bool.true_or, BEq.rfl, List.append_nil, List.nodup_nil, List.nodup_cons, Nat.reduceEqDiff, Nat.reduceBEq, List.not_mem_nil, id @f16r48.eq_1, uu f16b49.eq_1, uu f16b50.eq_1, id @f16r51.eq_1, uu f16b52.eq_1, uu f16b53.eq_1]
    rw [if_pos hr] at hS
    exact fin_L hS (l := []) rfl rfl rfl
end Go.Abs


set_option maxRecDepth 100000
set_option maxHeartbeats 4000000
namespace Go.Abs
open Go.Proofs Go.Wire Go.RowKit Go.Jr
theorem z7 (d : Disk) (h : Right d) : Spec Tryz.prog 7 [dV d] (fun r => r = resD (formatJ d)) := by
  refine Spec.of_awlP hf7 okf7 (by simp) fun S hS => ?_
  have c22 := z22 d h
  obtain ⟨secs, pend, left, down⟩ := d
  unfold formatJ at hS
  simp only [dV, encD] at *
  simp only [normRows_strs, normRows_wrs, Qs, if_true, bne_iff_ne, ne_eq, Nat.reduceAdd, Nat.reduceEqDiff, Nat.reduceBEq, uu f7.eq_1, id @f7r19.eq_1, uu f7b20.eq_1, id @f7r21.eq_1, uu f7b22.eq_1]
  refine call_s c22 ?_
  by_cases hr : readyD ⟨secs, pend, left, down⟩ = 0
  · rw [if_neg (by simp [hr])] at hS
    by_cases h2 : (secs.length : Int) < 3
    · simp only [hr, h2, strs_len, normRows_strs, normRows_wrs, Qs, if_true, if_false, List.append_nil, List.nodup_nil, Nat.reduceAdd, Nat.reduceLeDiff, Nat.reduceLT, Nat.reduceBEq, Int.reduceBNe, id @f7r7.eq_1, uu f7b8.eq_1, uu f7b9.eq_1, id @f7r10.eq_1, uu f7b11.eq_1, uu f7b12.eq_1, uu f7b15.eq_1, id @f7r16.eq_1, uu f7b17.eq_1, uu f7b18.eq_1]
      rw [if_pos (show secs.length ≤ 2 by omega)] at hS
      exact fin_T hS (secs := []) (pend := []) rfl rfl rfl
    · rw [if_neg (show ¬ secs.length ≤ 2 by omega)] at hS
      obtain ⟨hdn, hpd⟩ := readyD_eq hr
      simp only [] at hdn hpd
      subst hdn hpd
      have hlen : (hdr 0).length = 16 := hdr_len 0
      have hR1 := right_push h (i := 0) (by omega) (by omega) hlen (by simp)
      have hR2 := right_push hR1 (i := 1) (by omega) (by omega) hlen (by simp)
      have w1 := writeD_ok (d := ⟨secs, [], left, false⟩) (i := 0) (s := hdr 0) rfl (by omega) (by show (0 : Int) < secs.length; omega) (by omega) (by simp)
      have w2 := writeD_ok (d := ⟨secs, [] ++ [⟨0, hdr 0⟩], left, false⟩) (i := 1) (s := hdr 0) rfl (by omega) (by show (1 : Int) < secs.length; omega) (by omega) (by simp)
      rw [pad_hdr] at w1 w2
      have c1 := z15 _ h 0 (hdr 0)
      have c2 := z15 _ hR1 1 (hdr 0)
      have c3 := z24 _ hR2
      rw [w1] at c1
      rw [w2] at c2
      rw [w1] at hS
      simp only [] at hS
      rw [w2] at hS
      simp only [resD, dV, encD] at c1 c2 c3
      simp only [hr, h2, strs_len, normRows_strs, normRows_wrs, Qs, q_exLQ_eq_4, if_true, if_false, bne_iff_ne, ne_eq, Nat.reduceAdd, Nat.reduceEqDiff, Nat.reduceLeDiff, Nat.reduceBEq, Int.reduceBNe, id @f7r5o0.eq_1, id @f7r5o1.eq_1, id @f7r5o2.eq_1, id @f7r5o3.eq_1, id @f7r5o4.eq_1, id @f7r5o5.eq_1, id @f7r5o6.eq_1, id @f7r5o7.eq_1, id @f7r5o8.eq_1, utf7r5, uu f7b6.eq_1, uu f7b9.eq_1, id @f7r10.eq_1, uu f7b11.eq_1, uu f7b12.eq_1, uu f7b15.eq_1, id @f7r16.eq_1, uu f7b17.eq_1, uu f7b18.eq_1]
      refine callQ_s (r14 0 (by omega)) ?_
      simp only [V.fz, Abs.K.fz, normRows_strs, normRows_wrs, Qs, Nat.reduceBEq]
      refine callQ_R c1 ?_ rfl (by simp [lendL, V.norm, C.normRow, dV, encD, norm_list, norm_lst, normRows_strs, normRows_wrs]) rfl
      simp only [normRows_strs, normRows_wrs, Qs, q_exLQ_eq_4, if_true, bne_iff_ne, ne_eq, List.append_nil, Nat.reduceAdd, Nat.reduceEqDiff, Nat.reduceBEq, id @f7r3o0.eq_1, id @f7r3o1.eq_1, id @f7r3o2.eq_1, id @f7r3o3.eq_1, id @f7r3o4.eq_1, id @f7r3o5.eq_1, id @f7r3o6.eq_1, id @f7r3o7.eq_1, id @f7r3o8.eq_1, utf7r3, uu f7b4.eq_1]
      refine callQ_s (r14 0 (by omega)) ?_
      simp only [V.fz, Abs.K.fz, normRows_strs, normRows_wrs, Qs, Nat.reduceBEq]
      refine callQ_R c2 ?_ rfl (by simp [lendL, V.norm, C.normRow, dV, encD, norm_list, norm_lst, normRows_strs, normRows_wrs]) rfl
      simp only [normRows_strs, normRows_wrs, Qs, if_true, List.append_nil, Nat.reduceAdd, Nat.reduceBEq, id @f7r1.eq_1, uu f7b2.eq_1]
      refine call_r c3 ?_
      generalize flushD ⟨secs, [] ++ [⟨0, hdr 0⟩] ++ [⟨1, hdr 0⟩], left, false⟩ = y at hS ⊢
      obtain ⟨⟨s4, p4, l4, d4⟩, e4⟩ := y
      simp only [resD, dV, encD, normRows_strs, normRows_wrs, Qs, if_true, List.append_nil, List.nodup_nil, Nat.reduceAdd, Nat.reduceMul, Nat.reduceLT, Nat.reduceBEq]
      exact fin_T hS (norm_s _) (norm_w _) rfl
  · have hr1 : (readyD ⟨secs, pend, left, down⟩ != 0) = true := by simpa using hr
    simp only [hr1, normRows_strs, normRows_wrs, Qs, if_true, List.append_nil, List.nodup_nil, Nat.reduceAdd, Nat.reduceLT, Nat.reduceBEq, id @f7r13.eq_1, uu f7b14.eq_1, uu f7b15.eq_1, id @f7r16.eq_1, uu f7b17.eq_1, uu f7b18.eq_1]
    rw [if_pos hr] at hS
    exact fin_T hS (secs := []) (pend := []) rfl rfl rfl
theorem pz_back : ∀ (k : Nat) (b : Txt) (l : List Txt), pz k b = some l → b = wN wS l ∧ ∀ s ∈ l, s.length ≤ 2000
  | _, [], l, h => by
    have : l = [] := by cases ‹Nat› <;> simpa [pz] using h.symm
    subst this; exact ⟨rfl, by simp⟩
  | 0, _ :: _, l, h => by simp [pz] at h
  | k + 1, c :: t, l, h => by
    have hpz : pz (k + 1) (c :: t) = (rS (c :: t)).bind fun p => if p.1.length > 2000 then none else (pz k p.2).map (p.1 :: ·) := rfl
    rw [hpz] at h
    cases hs : rS (c :: t) with
    | none => rw [hs] at h; cases h
    | some p =>
      obtain ⟨s, r⟩ := p
      rw [hs] at h
      simp only [Option.bind_some] at h
      by_cases h5 : s.length > 2000
      · rw [if_pos h5] at h; cases h
      · rw [if_neg h5] at h
        cases hr : pz k r with
        | none => rw [hr] at h; cases h
        | some l2 =>
          rw [hr] at h
          simp only [Option.map_some, Option.some.injEq] at h
          subst h
          obtain ⟨e1, e2⟩ := pz_back k r l2 hr
          have h1 := ((reads_S _ s r).1 hs).2
          have e := wN_app wS [s] l2
          rw [List.singleton_append, wN_one] at e
          refine ⟨by rw [h1, e, e1], fun x hx => ?_⟩
          rcases List.mem_cons.1 hx with rfl | hx
          · omega
          · exact e2 x hx
theorem read_more (d : Disk) (h : Right d) (h0 : (readJ d).2 = 0) : (readJ d).1.bytes = wN wS (readJ d).1.list ∧ (∀ s ∈ (readJ d).1.list, s.length ≤ 2000) ∧ (readJ d).1.list.length ≤ 500 ∧ (readJ d).1.cur = curI d ∧ ∃ n, (readJ d).1.bytes = (logD d).take n := by
  unfold readJ curI at *
  by_cases hr : readyD d = 0
  · rw [if_neg (by simp [hr])] at h0 ⊢
    by_cases h2 : d.secs.length ≤ 2
    · rw [if_pos h2] at h0; simp at h0
    · rw [if_neg h2] at h0 ⊢
      cases hc : curD (numT (d.secs.getD 0 [])) (numT (d.secs.getD 1 [])) with
      | none => rw [hc] at h0; simp at h0
      | some p =>
        obtain ⟨c, n⟩ := p
        rw [hc] at h0
        simp only [] at h0 ⊢
        by_cases h3 : n > (logD d).length
        · rw [if_pos h3] at h0; simp at h0
        · rw [if_neg h3] at h0 ⊢
          cases hp : pz n ((logD d).take n) with
          | none => rw [hp] at h0; simp at h0
          | some l =>
            rw [hp] at h0
            simp only [] at h0 ⊢
            obtain ⟨e1, e2⟩ := pz_back _ _ _ hp
            by_cases h4 : l.length > 500
            · rw [if_pos h4] at h0; simp at h0
            · rw [if_neg h4]
              exact ⟨e1, e2, by simp only []; omega, rfl, n, rfl⟩
  · rw [if_pos hr] at h0; exact absurd h0 hr
theorem flat_get2 : ∀ (l : List Txt) (i j : Nat) (hl : ∀ s ∈ l, s.length = 16) (hi : i < l.length) (hj : j < 16), l.flatten.getD (16 * i + j) 0 = (l[i]).getD j 0
  | s :: l, 0, j, hl, hi, hj => by
    have := hl s List.mem_cons_self
    rw [List.flatten_cons]
    simp only [List.getD_eq_getElem?_getD, List.getElem_cons_zero]
    rw [List.getElem?_append_left (by omega)]
    simp
  | s :: l, i + 1, j, hl, hi, hj => by
    have h16 := hl s List.mem_cons_self
    have ih := flat_get2 l i j (fun x hx => hl x (List.mem_cons_of_mem _ hx)) (by simpa using hi) hj
    rw [List.flatten_cons]
    simp only [List.getD_eq_getElem?_getD, List.getElem_cons_succ] at ih ⊢
    rw [List.getElem?_append_right (by omega), h16, show 16 * (i + 1) + j - 16 = 16 * i + j by omega]
    exact ih
theorem cut1 {s : Txt} {a : Nat} (h : a < s.length) : List.drop a (List.take (a + 1) s) = [s.getD a 0] := by
  rw [List.drop_take, show a + 1 - a = 1 by omega, List.drop_eq_getElem_cons h, List.take_succ_cons, List.take_zero]
  simp [h]
theorem chunk_step {all : Txt} {a k : Nat} (h1 : a ≤ k) (h2 : k < all.length) : (all.drop a).take (k - a) ++ [all.getD k 0] = (all.drop a).take (k + 1 - a) := by
  rw [show k + 1 - a = (k - a) + 1 by omega, List.take_add_one, List.getElem?_drop, show a + (k - a) = k by omega, List.getElem?_eq_getElem h2]
  simp [h2]
theorem z8 (d : Disk) (h : Right d) (s : Txt) (hs : s.length ≤ 1000000000) : Spec Tryz.prog 8 [dV d, .str s] (fun r => r = resD (appendJ d s)) := by
  refine Spec.of_awlP hf8 okf8 (by simp) fun S hS => ?_
  have c16 := z16 d h
  have c26 := w12 s (by omega)
  have c27 := z27 d h
  unfold appendJ at hS
  obtain ⟨hb, hrd⟩ := read_facts d h
  have hmore := read_more d h
  have hll := log_le h
  have hlg := flat_16 (d.secs.drop 2) fun x hx => h.se x (List.mem_of_mem_drop hx)
  rw [List.length_drop] at hlg
  generalize hcu : curI d = cu at hmore c27
  generalize readJ d = x at c16 hS hb hrd hmore
  obtain ⟨⟨xl, xb, xc⟩, xe⟩ := x
  have hse := h.se
  have hhi := h.hi
  obtain ⟨secs, pend, left, down⟩ := d
  simp only [dV, encD] at *
  simp only [normRows_strs, normRows_wrs, Qs, if_true, bne_iff_ne, ne_eq, Nat.reduceAdd, Nat.reduceEqDiff, Nat.reduceBEq, uu f8.eq_1, id @f8r79.eq_1, uu f8b80.eq_1, id @f8r81.eq_1, uu f8b82.eq_1]
  refine call_r c16 ?_
  simp only [normRows_strs, normRows_wrs, Qs, if_true, List.append_nil, List.nodup_nil, Nat.reduceAdd, Nat.reduceMul, Nat.reduceLT, Nat.reduceBEq, id @f8r65.eq_1, uu f8b66.eq_1, id @f8r67.eq_1, uu f8b68.eq_1, uu f8b69.eq_1, id @f8r70.eq_1, uu f8b71.eq_1, uu f8b72.eq_1, id @f8r73.eq_1, uu f8b74.eq_1, uu f8b75.eq_1, id @f8r76.eq_1, uu f8b77.eq_1, uu f8b78.eq_1]
  have hws := wS_le (s := s) (by omega)
  have hw2 := wS_len (s := s) (by show s.length ≤ 9223372036854775807; omega)
  by_cases he : xe = 0
  · subst he
    obtain ⟨hc, hdn, hpd, h2⟩ := hrd rfl
    obtain ⟨m1, m2, m3, m4, n, m5⟩ := hmore rfl
    subst hdn hpd m4
    rw [if_neg (by simp)] at hS
    by_cases h1 : (s.length : Int) > 2000
    · rw [if_pos (show s.length > 2000 by omega)] at hS
      simp only [h1, normRows_strs, normRows_wrs, Qs, forall_const, Int.reduceBNe]
      exact fin_T hS (secs := []) (pend := []) rfl rfl rfl
    · rw [if_neg (show ¬ s.length > 2000 by omega)] at hS
      have c25 := z25 xl m2 (by rw [← m1]; omega)
      rw [← m1] at c25
      have w2 : IntKind.i64.wrap ((secs.length : Int) - 2) = (secs.length : Int) - 2 := wrap_in (by omega) (by omega)
      have w3 : IntKind.i64.wrap (16 * ((secs.length : Int) - 2)) = 16 * ((secs.length : Int) - 2) := wrap_in (by omega) (by omega)
      have w4 : IntKind.i64.wrap ((xb.length : Int).tdiv 16) = ((xb.length / 16 : Nat) : Int) := by
        rw [Int.tdiv_eq_ediv_of_nonneg (by omega), wrap_in (by omega) (by omega)]; omega
      have w5 : IntKind.i64.wrap ((xb.length : Int) + ((wS s).length : Int)) = (((xb ++ wS s).length : Nat) : Int) := by rw [List.length_append, wrap_in (by omega) (by omega)]; omega
      simp only [h1, normRows_strs, normRows_wrs, Qs, forall_const, Int.reduceBNe]
      refine call_s c25 ?_
      simp only [normRows_strs, normRows_wrs, Qs, Nat.reduceBEq, id @f8r63.eq_1, uu f8b64.eq_1]
      refine call_s c26 ?_
      simp only [h1, w2, w3, w4, w5, strs_len, normRows_strs, normRows_wrs, Qs, if_true, if_false, List.append_nil, List.nodup_nil, Nat.reduceAdd, Nat.reduceLeDiff, Nat.reduceLT, Nat.reduceBEq, id @f8r53.eq_1, uu f8b54.eq_1, id @f8r55.eq_1, uu f8b56.eq_1, uu f8b57.eq_1, id @f8r58.eq_1, uu f8b59.eq_1, uu f8b60.eq_1, id @f8r61.eq_1, uu f8b62.eq_1]
      refine ⟨fun g => ?_, fun g => ⟨fun g2 => ?_, fun g2 => ?_⟩⟩
      · rw [if_pos (.inl (by omega))] at hS
        exact fin_T hS (secs := []) (pend := []) rfl rfl rfl
      · rw [if_pos (.inr (by omega))] at hS
        exact fin_T hS (secs := []) (pend := []) rfl rfl rfl
      · rw [if_neg (by omega)] at hS
        have hfit : (xb ++ wS s).length ≤ (secs.length - 2) * 16 := by omega
        have hlen2 : (xb ++ wS s).length = xb.length + (wS s).length := List.length_append
        have hat : xb.length / 16 ≤ 512 := by omega
        have hal : (xb ++ wS s).length ≤ 100000 := by omega
        refine call_s (c27 (by omega)) ?_
        simp only [h1, w2, w3, w4, w5, strs_len, normRows_strs, normRows_wrs, Qs, if_true, bne_iff_ne, ne_eq, List.append_nil, Nat.reduceAdd, Nat.reduceEqDiff, Nat.reduceBEq, Int.reduceEq, uu f8b47.eq_1, id @f8r48.eq_1, uu f8b49.eq_1, uu f8b50.eq_1, id @f8r51.eq_1, uu f8b52.eq_1]
        rw [uf8l46]
        refine awl_loop (fun x : Nat × Disk => [(2, .k (.ptr 2 0)), (4, .k (.ptr 4 0)), (8, .int .i64 xb.length), (9, .str (wS s)), (10, .int .i64 (xb ++ wS s).length), (11, .int .i64 xc), (12, .k (.ptr 12 0)), (13, .int .i64 x.1)])
          (fun x => [(2, objC secs [] left false), (4, .var 27 [.c (.list 0 (some true) []), .c (.list 0 (some true) []), .c (.int .i64 0), .c (.bool false)]), (12, objC x.2.secs x.2.pend x.2.left x.2.down)])
          (fun x => xb.length / 16 ≤ x.1 ∧ Right x.2 ∧ x.2.down = false ∧ x.2.secs.length = secs.length ∧ x.2.pend.length ≤ x.1 ∧ x.1 ≤ 512 + (xb ++ wS s).length ∧ ∃ k, (xb ++ wS s).length ≤ 16 * (x.1 + k) ∧ putJ (xb ++ wS s) k x.1 x.2 = putJ (xb ++ wS s) (xb ++ wS s).length (xb.length / 16) ⟨secs, [], left, false⟩)
          (fun x => (xb ++ wS s).length + 1 - x.1) (xb.length / 16, ⟨secs, [], left, false⟩) rfl rfl ⟨Nat.le_refl _, h, rfl, rfl, by simp, by omega, (xb ++ wS s).length, by simp only []; omega, rfl⟩ ?_
        rintro ⟨j, secs2, pend2, left2, down2⟩ ⟨g0, g1, g2', g3, g4, g5, k, g6, g7⟩
        simp only [] at g0 g2' g3 g4 g5 g6 g7
        subst g2'
        have w5 : IntKind.i64.wrap (16 * (j : Int)) = 16 * (j : Int) := wrap_in (by omega) (by omega)
        by_cases hlt : 16 * j < (xb ++ wS s).length
        · have c1 : 16 * (j : Int) < ((xb ++ wS s).length : Int) := by omega
          have w6 : IntKind.i64.wrap (2 + (j : Int)) = 2 + (j : Int) := wrap_in (by omega) (by omega)
          have w7 : IntKind.i64.wrap ((j : Int) + 1) = (j : Int) + 1 := wrap_in (by omega) (by omega)
          have w8 : IntKind.i64.wrap (16 * (j : Int) + 16) = 16 * (j : Int) + 16 := wrap_in (by omega) (by omega)
          simp only [w5, w6, w7, w8, c1, Qs, if_true, Nat.reduceBEq, id @f8r13.eq_1, uu f8b34.eq_1, id @f8r35.eq_1, uu f8b36.eq_1, uu f8b37.eq_1, id @f8r38.eq_1, uu f8b39.eq_1, uu f8b40.eq_1, uu f8b41.eq_1, uu f8b42.eq_1, id @f8r43.eq_1, uu f8b44.eq_1, uu f8b45.eq_1]
          rw [uf8l33]
          refine awl_loop (fun x : Nat => [(2, .k (.ptr 2 0)), (4, .k (.ptr 4 0)), (8, .int .i64 xb.length), (9, .str (wS s)), (10, .int .i64 (xb ++ wS s).length), (11, .int .i64 xc), (12, .k (.ptr 12 0)), (13, .int .i64 j), (14, .str (((xb ++ wS s).drop (16 * j)).take (x - 16 * j))), (15, .int .i64 x)])
            (fun x => [(2, objC secs [] left false), (4, .var 27 [.c (.list 0 (some true) []), .c (.list 0 (some true) []), .c (.int .i64 0), .c (.bool false)]), (12, objC secs2 pend2 left2 false)])
            (fun x => 16 * j ≤ x ∧ x ≤ 16 * j + 16 ∧ x ≤ (xb ++ wS s).length) (fun x => 16 * j + 16 - x) (16 * j) (by simp [keepT, lookT]) rfl ⟨Nat.le_refl _, by omega, by omega⟩ ?_
          rintro x ⟨f1, f2, f3⟩
          have w10 : IntKind.i64.wrap ((x : Int) + 1) = (x : Int) + 1 := wrap_in (by omega) (by omega)
          have tm : (x : Int).tmod 16 = ((x % 16 : Nat) : Int) := by rw [Int.tmod_eq_emod_of_nonneg (by omega)]; omega
          have w11' : IntKind.i64.wrap (((x % 16 : Nat) : Int) + 1) = ((x % 16 + 1 : Nat) : Int) := by rw [wrap_in (by omega) (by omega)]; omega
          by_cases hx : x < 16 * j + 16
          · have d1 : (x : Int) < 16 * (j : Int) + 16 := by omega
            by_cases hx2 : x < (xb ++ wS s).length
            · have d2 : (x : Int) < ((xb ++ wS s).length : Int) := by omega
              have hst := chunk_step (all := xb ++ wS s) (a := 16 * j) (k := x) f1 hx2
              by_cases hx3 : x < xb.length
              · have d3 : (x : Int) < (xb.length : Int) := by omega
                have d4 : 2 + j < secs.length := by omega
                have d5 : ((2 + j : Nat) : Int) < secs.length := by omega
                have d6 : (2 : Int) + (j : Int) = ((2 + j : Nat) : Int) := by omega
                rw [d6] at w6
                have hsl := hse _ (List.getElem_mem d4)
                simp only [d1, d2, d3, d5, d6, w5, w6, w8, w10, w11', tm, strs_at d4, strs_len, normRows_strs, Qs, if_true, if_false, ne_eq, Nat.reduceAdd, Nat.reduceLeDiff, Nat.reduceBEq, Int.reduceEq, id @f8r21.eq_1, id @f8r22.eq_1, id @f8r23.eq_1, uu f8b24.eq_1, id @f8r25.eq_1, uu f8b26.eq_1, uu f8b27.eq_1, uu f8b28.eq_1, uu f8b29.eq_1, id @f8r30.eq_1, uu f8b31.eq_1, uu f8b32.eq_1]
                have q1 : x % 16 < secs[2 + j].length := by omega
                have q2 : (xb ++ wS s).getD x 0 = secs[2 + j].getD (x % 16) 0 := by
                  have hdl : j < (secs.drop 2).length := by rw [List.length_drop]; omega
                  have h3 := flat_get2 (secs.drop 2) j (x % 16) (fun y hy => hse y (List.mem_of_mem_drop hy)) hdl (by omega)
                  rw [show 16 * j + x % 16 = x by omega, List.getElem_drop] at h3
                  rw [← h3, List.getD_eq_getElem?_getD, List.getD_eq_getElem?_getD, List.getElem?_append_left hx3, m5]
                  have hx4 : x < n := by rw [m5, List.length_take] at hx3; omega
                  rw [List.getElem?_take_of_lt hx4]; rfl
                rw [cut1 q1, ← q2, hst]
                refine ⟨⟨by omega, by omega⟩, by rw [List.length_take, List.length_singleton]; omega, Next.intro (x + 1) rfl rfl ⟨by omega, by omega, by omega⟩ (by omega)⟩
              · have d3 : ¬ (x : Int) < (xb.length : Int) := by omega
                have w12 : IntKind.i64.wrap ((x : Int) - (xb.length : Int)) = ((x - xb.length : Nat) : Int) := by rw [wrap_in (by omega) (by omega)]; omega
                have w13 : IntKind.i64.wrap (((x - xb.length : Nat) : Int) + 1) = ((x - xb.length + 1 : Nat) : Int) := by rw [wrap_in (by omega) (by omega)]; omega
                simp only [d1, d2, d3, w5, w8, w10, w12, w13, strs_len, normRows_strs, Qs, if_true, Nat.reduceBEq, id @f8r21.eq_1, id @f8r22.eq_1, id @f8r23.eq_1, uu f8b24.eq_1, id @f8r25.eq_1, uu f8b26.eq_1, uu f8b27.eq_1, uu f8b28.eq_1, uu f8b29.eq_1, id @f8r30.eq_1, uu f8b31.eq_1, uu f8b32.eq_1]
                have q1 : x - xb.length < (wS s).length := by omega
                have q2 : (xb ++ wS s).getD x 0 = (wS s).getD (x - xb.length) 0 := by
                  rw [List.getD_eq_getElem?_getD, List.getD_eq_getElem?_getD, List.getElem?_append_right (by omega)]
                rw [cut1 q1, ← q2, hst]
                refine ⟨⟨by omega, by omega⟩, by rw [List.length_take, List.length_singleton]; omega, Next.intro (x + 1) rfl rfl ⟨by omega, by omega, by omega⟩ (by omega)⟩
            · have d2 : ¬ (x : Int) < ((xb ++ wS s).length : Int) := by omega
              simp only [d1, d2, w5, w8, w6, Qs, if_true, if_false, reduceCtorEq, Nat.reduceAdd, Nat.reduceBEq, Nat.succ_ne_self, id @f8r19.eq_1, uu f8b20.eq_1, uu f8b29.eq_1, id @f8r30.eq_1, uu f8b31.eq_1, uu f8b32.eq_1]
              rw [show ((xb ++ wS s).drop (16 * j)).take (x - 16 * j) = ((xb ++ wS s).drop (16 * j)).take 16 by rw [show x = (xb ++ wS s).length by omega, List.take_of_length_le (by rw [List.length_drop]; omega), List.take_of_length_le (by rw [List.length_drop]; omega)]]
              obtain ⟨k, rfl⟩ : ∃ k', k = k' + 1 := ⟨k - 1, by omega⟩
              rw [putJ, if_pos hlt] at g7
              have hch : (((xb ++ wS s).drop (16 * j)).take 16).length ≤ 16 := by rw [List.length_take]; omega
              generalize ((xb ++ wS s).drop (16 * j)).take 16 = ch at g7 hch ⊢
              have hw := writeD_ok (d := ⟨secs2, pend2, left2, false⟩) (i := 2 + (j : Int)) (s := ch) rfl (by omega) (by show 2 + (j : Int) < secs2.length; omega) hch (by show pend2.length < 512; omega)
              have hp := right_push (i := 2 + (j : Int)) (t := pad ch) g1 (by omega) (by omega) (pad_len hch) (by omega)
              have c15 := z15 _ g1 (2 + (j : Int)) ch
              rw [hw] at g7 c15
              simp only [resD, dV, encD] at c15
              refine call_r c15 ?_
              simp only [normRows_strs, normRows_wrs, w7, Qs, if_true, List.append_nil, Nat.reduceAdd, Nat.reduceMul, Nat.reduceBEq, Int.reduceBNe, uu f8b16.eq_1, id @f8r17.eq_1, uu f8b18.eq_1]
              exact Next.intro (j + 1, ⟨secs2, pend2 ++ [⟨2 + (j : Int), pad ch⟩], left2, false⟩) rfl rfl ⟨by show xb.length / 16 ≤ j + 1; omega, hp, rfl, g3, by show (pend2 ++ [_]).length ≤ j + 1; rw [List.length_append, List.length_singleton]; omega, by show j + 1 ≤ 512 + (xb ++ wS s).length; omega, k, by show (xb ++ wS s).length ≤ 16 * (j + 1 + k); omega, g7⟩ (by show (xb ++ wS s).length + 1 - (j + 1) < (xb ++ wS s).length + 1 - j; omega)
          · have d1 : ¬ (x : Int) < 16 * (j : Int) + 16 := by omega
            simp only [d1, w5, w8, w6, Qs, if_true, if_false, reduceCtorEq, Nat.reduceAdd, Nat.reduceBEq, Nat.succ_ne_self, id @f8r19.eq_1, uu f8b20.eq_1, uu f8b29.eq_1, id @f8r30.eq_1, uu f8b31.eq_1, uu f8b32.eq_1]
            rw [show ((xb ++ wS s).drop (16 * j)).take (x - 16 * j) = ((xb ++ wS s).drop (16 * j)).take 16 by rw [show x - 16 * j = 16 by omega]]
            obtain ⟨k, rfl⟩ : ∃ k', k = k' + 1 := ⟨k - 1, by omega⟩
            rw [putJ, if_pos hlt] at g7
            have hch : (((xb ++ wS s).drop (16 * j)).take 16).length ≤ 16 := by rw [List.length_take]; omega
            generalize ((xb ++ wS s).drop (16 * j)).take 16 = ch at g7 hch ⊢
            have hw := writeD_ok (d := ⟨secs2, pend2, left2, false⟩) (i := 2 + (j : Int)) (s := ch) rfl (by omega) (by show 2 + (j : Int) < secs2.length; omega) hch (by show pend2.length < 512; omega)
            have hp := right_push (i := 2 + (j : Int)) (t := pad ch) g1 (by omega) (by omega) (pad_len hch) (by omega)
            have c15 := z15 _ g1 (2 + (j : Int)) ch
            rw [hw] at g7 c15
            simp only [resD, dV, encD] at c15
            refine call_r c15 ?_
            simp only [normRows_strs, normRows_wrs, w7, Qs, if_true, List.append_nil, Nat.reduceAdd, Nat.reduceMul, Nat.reduceBEq, Int.reduceBNe, uu f8b16.eq_1, id @f8r17.eq_1, uu f8b18.eq_1]
            exact Next.intro (j + 1, ⟨secs2, pend2 ++ [⟨2 + (j : Int), pad ch⟩], left2, false⟩) rfl rfl ⟨by show xb.length / 16 ≤ j + 1; omega, hp, rfl, g3, by show (pend2 ++ [_]).length ≤ j + 1; rw [List.length_append, List.length_singleton]; omega, by show j + 1 ≤ 512 + (xb ++ wS s).length; omega, k, by show (xb ++ wS s).length ≤ 16 * (j + 1 + k); omega, g7⟩ (by show (xb ++ wS s).length + 1 - (j + 1) < (xb ++ wS s).length + 1 - j; omega)
        · have c1 : ¬ 16 * (j : Int) < ((xb ++ wS s).length : Int) := by omega
          have g8 : putJ (xb ++ wS s) k j ⟨secs2, pend2, left2, false⟩ = ⟨secs2, pend2, left2, false⟩ := by
            cases k with
            | zero => rfl
            | succ k => rw [putJ, if_neg hlt]
          rw [g8] at g7
          rw [← g7] at hS
          have c24 := z24 _ g1
          simp only [dV, encD] at c24
          simp only [w5, c1, normRows_strs, normRows_wrs, Qs, if_true, Nat.reduceAdd, Nat.reduceBEq, id @f8r11.eq_1, uu f8b12.eq_1, uu f8b42.eq_1, id @f8r43.eq_1, uu f8b44.eq_1, uu f8b45.eq_1]
          refine call_r c24 ?_
          obtain ⟨hRf, hzf⟩ := right_flush g1 rfl
          generalize flushD ⟨secs2, pend2, left2, false⟩ = x at hS hRf hzf ⊢
          obtain ⟨⟨s3, p3, l3, d3⟩, e3⟩ := x
          simp only [] at hS hRf hzf
          by_cases hz : e3 = 0
          · subst hz
            obtain ⟨z1, z2, z3⟩ := hzf rfl
            subst z1 z2
            rw [if_neg (by simp)] at hS
            have w9 : IntKind.i64.wrap (1 - xc) = 1 - xc := wrap_in (by omega) (by omega)
            have hhl := hdr_len (xb ++ wS s).length
            have hw := writeD_ok (d := ⟨s3, [], l3, false⟩) (i := 1 - xc) (s := hdr (xb ++ wS s).length) rfl (by omega) (by show 1 - xc < s3.length; omega) (by omega) (by simp)
            have hp := right_push (i := 1 - xc) (t := pad (hdr (xb ++ wS s).length)) hRf (by omega) (by omega) (pad_len (by omega)) (by simp)
            rw [hw] at hS
            simp only [resD, dV, encD, normRows_strs, normRows_wrs, w9, Qs, if_true, List.append_nil, Nat.reduceAdd, Nat.reduceMul, Nat.reduceBEq, Int.reduceBNe, id @f8r3o0.eq_1, id @f8r3o1.eq_1, id @f8r3o2.eq_1, id @f8r3o3.eq_1, id @f8r3o4.eq_1, id @f8r3o5.eq_1, id @f8r3o6.eq_1, id @f8r3o7.eq_1, id @f8r3o8.eq_1, id @f8r3o9.eq_1, utf8r3, uu f8b4.eq_1, uu f8b7.eq_1, id @f8r8.eq_1, uu f8b9.eq_1, uu f8b10.eq_1]
            refine callQ_s (r14 (xb ++ wS s).length (by omega)) ?_
            simp only [V.fz, Abs.K.fz, normRows_strs, normRows_wrs, w9, Qs, Nat.reduceBEq]
            refine callQ_R (z15 _ hRf (1 - xc) (hdr (xb ++ wS s).length)) ?_ rfl (by simp [lendL, V.norm, C.normRow, dV, encD, norm_list, norm_lst, normRows_strs, normRows_wrs]) rfl
            rw [hw]
            have c24' := z24 _ hp
            simp only [dV, encD] at c24'
            simp only [resD, dV, encD, normRows_strs, normRows_wrs, w9, Qs, if_true, List.append_nil, Nat.reduceAdd, Nat.reduceBEq, id @f8r1.eq_1, uu f8b2.eq_1]
            refine call_r c24' ?_
            simp only [List.nil_append] at hS ⊢
            generalize flushD ⟨s3, [⟨1 - xc, pad (hdr (xb ++ wS s).length)⟩], l3, false⟩ = y at hS ⊢
            obtain ⟨⟨s4, p4, l4, d4⟩, e4⟩ := y
            simp only [resD, dV, encD, normRows_strs, normRows_wrs, Qs, if_true, List.append_nil, List.nodup_nil, Nat.reduceAdd, Nat.reduceMul, Nat.reduceLT, Nat.reduceBEq]
            exact fin_T hS (norm_s _) (norm_w _) rfl
          · rw [if_pos hz] at hS
            simp only [resD, dV, encD, hz, normRows_strs, normRows_wrs, Qs, if_true, forall_const, List.append_nil, List.nodup_nil, Nat.reduceAdd, Nat.reduceMul, Nat.reduceLT, Nat.reduceBEq, id @f8r3o0.eq_1, id @f8r3o1.eq_1, id @f8r3o2.eq_1, id @f8r3o3.eq_1, id @f8r3o4.eq_1, id @f8r3o5.eq_1, id @f8r3o6.eq_1, id @f8r3o7.eq_1, id @f8r3o8.eq_1, id @f8r3o9.eq_1, utf8r3, uu f8b4.eq_1, id @f8r5.eq_1, uu f8b6.eq_1, uu f8b7.eq_1, id @f8r8.eq_1, uu f8b9.eq_1, uu f8b10.eq_1]
            exact fin_T hS (norm_s _) (norm_w _) rfl
  · rw [if_pos he] at hS
    simp only [he, normRows_strs, normRows_wrs, Qs, forall_const]
    exact fin_T hS (secs := []) (pend := []) rfl rfl rfl
end Go.Abs


set_option maxRecDepth 100000
set_option maxHeartbeats 4000000
namespace Go.Abs
open Go.Proofs Go.Wire Go.RowKit Go.Jr
def Left (x : Disk × Int) : Prop := (x.1 = zeroD ∧ x.2 ≠ 0) ∨ Right x.1
theorem left_arm {d : Disk} (h : Right d) (k : Int) : Left (armD d k) := by
  unfold armD
  by_cases h1 : d.down = true
  · rw [if_pos h1]; exact .inl ⟨rfl, by decide⟩
  · rw [if_neg h1]
    by_cases h2 : k < 0 ∨ k > 512
    · rw [if_pos h2]; exact .inl ⟨rfl, by decide⟩
    · rw [if_neg h2]
      exact .inr ⟨h.lo, h.hi, h.pe, by show -1 ≤ k; omega, by show k ≤ 512; omega, fun e => absurd e h1, h.se, h.wr⟩
theorem left_cut {d : Disk} (h : Right d) : Left (cutD d) := by
  unfold cutD
  by_cases h1 : d.down = true
  · rw [if_pos h1]; exact .inl ⟨rfl, by decide⟩
  · rw [if_neg h1]
    exact .inr ⟨h.lo, h.hi, by simp, by simp, by simp, fun _ => ⟨rfl, rfl⟩, h.se, by simp⟩
theorem left_start {d : Disk} (h : Right d) : Left (startD d) := by
  unfold startD
  by_cases h1 : d.down = true
  · rw [if_pos h1]
    exact .inr ⟨h.lo, h.hi, h.pe, h.l0, h.l1, fun e => absurd e (by simp), h.se, h.wr⟩
  · rw [if_neg h1]; exact .inl ⟨rfl, by decide⟩
theorem left_write {d : Disk} (h : Right d) (i : Int) (s : Txt) : Left (writeD d i s) := by
  unfold writeD
  by_cases h1 : d.down = true
  · rw [if_pos h1]; exact .inl ⟨rfl, by decide⟩
  · rw [if_neg h1]
    by_cases h2 : i < 0 ∨ i ≥ d.secs.length ∨ s.length > 16
    · rw [if_pos h2]; exact .inl ⟨rfl, by decide⟩
    · rw [if_neg h2]
      by_cases h3 : d.pend.length ≥ 512
      · rw [if_pos h3]; exact .inl ⟨rfl, by decide⟩
      · rw [if_neg h3]
        right
        obtain ⟨secs, pend, left, down⟩ := d
        have hd : down = false := by simpa using h1
        subst hd
        have h2' : ¬ (i < 0 ∨ i ≥ secs.length ∨ s.length > 16) := h2
        have h3' : ¬ pend.length ≥ 512 := h3
        exact right_push h (by omega) (by omega) (by simp [zeros]; omega) (by omega)
theorem left_flush {d : Disk} (h : Right d) : Left (flushD d) := by
  by_cases h1 : d.down = true
  · left; unfold flushD; rw [if_pos h1]; exact ⟨rfl, by decide⟩
  · exact .inr (right_flush h (by simpa using h1)).1
theorem right_put (all : Txt) : ∀ (k i : Nat) (d : Disk), Right d → d.down = false → all.length ≤ 16 * (d.secs.length - 2) → d.pend.length ≤ i → Right (putJ all k i d) ∧ (putJ all k i d).down = false ∧ (putJ all k i d).secs.length = d.secs.length
  | 0, _, d, h, hu, _, _ => ⟨h, hu, rfl⟩
  | k + 1, i, d, h, hu, hl, hp => by
    rw [putJ]
    by_cases hlt : 16 * i < all.length
    · rw [if_pos hlt]
      have hhi := h.hi
      obtain ⟨secs, pend, left, down⟩ := d
      simp only [] at hu hl hp hhi
      subst hu
      have hch : ((all.drop (16 * i)).take 16).length ≤ 16 := by rw [List.length_take]; omega
      have hp2 := right_push h (i := 2 + (i : Int)) (by omega) (by omega) (pad_len hch) (by omega)
      rw [writeD_ok (d := ⟨secs, pend, left, false⟩) (i := 2 + (i : Int)) rfl (by omega) (by show 2 + (i : Int) < secs.length; omega) hch (by show pend.length < 512; omega)]
      exact right_put all k (i + 1) _ hp2 rfl hl (by show (pend ++ [_]).length ≤ i + 1; rw [List.length_append, List.length_singleton]; omega)
    · rw [if_neg hlt]; exact ⟨h, hu, rfl⟩
theorem left_format {d : Disk} (h : Right d) : Left (formatJ d) := by
  unfold formatJ
  by_cases hr : readyD d = 0
  · rw [if_neg (by simp [hr])]
    by_cases h2 : d.secs.length ≤ 2
    · rw [if_pos h2]; exact .inl ⟨rfl, by decide⟩
    · rw [if_neg h2]
      obtain ⟨hdn, hpd⟩ := readyD_eq hr
      have hlen : (hdr 0).length = 16 := hdr_len 0
      obtain ⟨secs, pend, left, down⟩ := d
      simp only [] at hdn hpd h2
      subst hdn hpd
      rw [writeD_ok (d := ⟨secs, [], left, false⟩) (i := 0) rfl (by omega) (by show (0 : Int) < secs.length; omega) (by omega) (by simp)]
      have hR1 := right_push h (i := 0) (by omega) (by omega) (pad_len (s := hdr 0) (by omega)) (by simp)
      have hR2 := right_push hR1 (i := 1) (by omega) (by omega) (pad_len (s := hdr 0) (by omega)) (by simp)
      simp only []
      rw [writeD_ok (d := ⟨secs, [] ++ [(⟨0, pad (hdr 0)⟩ : Wr)], left, false⟩) (i := 1) (s := hdr 0) rfl (by omega) (by show (1 : Int) < secs.length; omega) (by omega) (by simp)]
      exact left_flush hR2
  · rw [if_pos hr]; exact .inl ⟨rfl, hr⟩
theorem left_append {d : Disk} (h : Right d) (s : Txt) : Left (appendJ d s) := by
  unfold appendJ
  obtain ⟨hb, hrd⟩ := read_facts d h
  by_cases he : (readJ d).2 = 0
  · rw [if_neg (by simp [he])]
    obtain ⟨hc, hdn, hpd, h2⟩ := hrd he
    by_cases h3 : s.length > 2000
    · rw [if_pos h3]; exact .inl ⟨rfl, by decide⟩
    · rw [if_neg h3]
      by_cases h4 : (readJ d).1.list.length = 500 ∨ ((readJ d).1.bytes ++ wS s).length > (d.secs.length - 2) * 16
      · rw [if_pos h4]; exact .inl ⟨rfl, by decide⟩
      · rw [if_neg h4]
        obtain ⟨hp, hpu, hps⟩ := right_put ((readJ d).1.bytes ++ wS s) ((readJ d).1.bytes ++ wS s).length ((readJ d).1.bytes.length / 16) d h hdn (by omega) (by rw [hpd]; simp)
        obtain ⟨hf, hz⟩ := right_flush hp hpu
        simp only []
        by_cases h5 : (flushD (putJ ((readJ d).1.bytes ++ wS s) ((readJ d).1.bytes ++ wS s).length ((readJ d).1.bytes.length / 16) d)).2 ≠ 0
        · rw [if_pos h5]; exact .inr hf
        · rw [if_neg h5]
          obtain ⟨z1, z2, z3⟩ := hz (by simpa using h5)
          have hhl := hdr_len ((readJ d).1.bytes ++ wS s).length
          rw [writeD_ok (s := hdr ((readJ d).1.bytes ++ wS s).length) z1 (by omega) (by omega) (by omega) (by rw [z2]; simp)]
          generalize flushD (putJ ((readJ d).1.bytes ++ wS s) ((readJ d).1.bytes ++ wS s).length ((readJ d).1.bytes.length / 16) d) = y at hf z1 z2 z3 ⊢
          obtain ⟨⟨s3, p3, l3, d3⟩, e3⟩ := y
          simp only [] at hf z1 z2 z3 ⊢
          subst z1
          exact left_flush (right_push hf (by omega) (by omega) (pad_len (by omega)) (by rw [z2]; simp))
  · rw [if_pos he]; exact .inl ⟨rfl, he⟩
theorem Left.small {x : Disk × Int} (h : Left x) : x.1.secs.length ≤ 512 ∧ x.1.pend.length ≤ 512 := by
  rcases h with ⟨h, _⟩ | h
  · rw [h]; exact ⟨by decide, by decide⟩
  · exact ⟨h.hi, h.pe⟩
theorem Left.good {x : Disk × Int} (h : Left x) (hx : x.2 = 0 ∨ x.2 = 8 ∧ x.1.secs ≠ []) : Right x.1 := by
  rcases h with ⟨h, h2⟩ | h
  · rcases hx with hx | ⟨_, hx⟩
    · exact absurd hx h2
    · rw [h] at hx; exact absurd rfl hx
  · exact h
end Go.Abs


set_option maxRecDepth 100000
set_option maxHeartbeats 4000000
namespace Go.Abs
open Go.Proofs Go.Wire Go.RowKit Go.Jr
structure Stp where
  kind : Int
  s : Txt
  n : Int
def encP (x : Stp) : List C := [.int .i64 x.kind, .str x.s, .int .i64 x.n]
def steps (l : List Stp) : List (List C) := l.map encP
theorem steps_len (l : List Stp) : (steps l).length = l.length := by simp [steps]
theorem steps_at {l : List Stp} {i : Nat} (h : i < l.length) : (steps l).getD i [] = [.int .i64 l[i].kind, .str l[i].s, .int .i64 l[i].n] := by simp [steps, encP, h]
theorem normRows_steps (l : List Stp) : C.normRows (steps l) = steps l := normRows_eq (fun _ => rfl) l
theorem l3 (n : Int) (fm : Bool) (l : List Stp) (at_ : Int) : Spec Tryz.prog 3 [.int .i64 n, .bool fm, lst 3 (steps l), .int .i64 at_] (fun r => r = .bool true) := by
  refine Spec.of_awlS hf3 okf3 (by simp) fun S hS => ?_
  simp only [Qs, Nat.reduceAdd, uu f3.eq_1, id @f3r108.eq_1, uu f3b109.eq_1, id @f3r110.eq_1, uu f3b111.eq_1]
  refine call_s l7 ?_
  by_cases h20 : (l.length : Int) > 20
  · simp only [h20, steps_len, Qs, if_true, List.nodup_nil, Nat.reduceBEq, id @f3r102.eq_1, uu f3b103.eq_1, uu f3b104.eq_1, id @f3r105.eq_1, uu f3b106.eq_1, uu f3b107.eq_1]
    exact hS
  · simp only [h20, steps_len, Qs, if_true, Nat.reduceBEq, id @f3r100.eq_1, uu f3b101.eq_1, uu f3b104.eq_1, id @f3r105.eq_1, uu f3b106.eq_1, uu f3b107.eq_1]
    obtain ⟨z1, z2⟩ := sizeZ_ge n
    have c6 := l10 n
    obtain ⟨k, hk⟩ : ∃ k : Nat, sizeZ n = k := ⟨(sizeZ n).toNat, by omega⟩
    rw [hk] at c6 z1 z2
    have c5 := r16 k (by omega) (by omega)
    simp only [resD, dV, encD] at c5
    have key : ∀ (D : Disk) (ts : TS) (os : OS), Right D → keepT ts [2, 3, 9, 10, 12] = [(2, lst 3 (steps l)), (3, .int .i64 at_), (9, .bool true), (10, .k (.ptr 10 0)), (12, .int .i64 (0 : Nat))] →
        keepO os [10, 37, 49, 71, 100, 108, 116, 124, 155, 38000, 38001, 38002, 50000, 50001, 50002, 72000, 72001, 72002, 101000, 101001, 101002, 109000, 109001, 109002, 117000, 117001, 117002, 125000, 125001, 125002, 156000, 156001, 156002] = [(10, objC D.secs D.pend D.left D.down)] →
        awl Tryz.prog f3l90 (AE.inBlockL 0 (AE.thenL (awl Tryz.prog f3b2 (endK [RX.t 8] S)) (endK [RX.t 8] S))) ts os := by
      intro D0 ts os hR0 hts hos
      rw [uf3l90]
      refine awl_loop (fun x : Nat × Disk => [(2, lst 3 (steps l)), (3, .int .i64 at_), (9, .bool true), (10, .k (.ptr 10 0)), (12, .int .i64 x.1)]) (fun x => [(10, objC x.2.secs x.2.pend x.2.left x.2.down)])
        (fun x => x.1 ≤ l.length ∧ Right x.2) (fun x => l.length - x.1) (0, D0) hts hos ⟨Nat.zero_le _, hR0⟩ ?_
      rintro ⟨i, D⟩ ⟨hi, hR⟩
      simp only [] at hi hR
      have hcs := left_cut hR
      have rest : ∀ (Q : AE → KK) (x : Disk) (e : Int), (e = 0 ∨ e = 8 ∧ x.secs ≠ [] → Right x) →
          (∀ (D' : Disk) (ts : TS) (os : OS), Right D' → lookT 2 ts = lst 3 (steps l) → lookT 3 ts = .int .i64 at_ → lookT 9 ts = .bool true → lookT 10 ts = .k (.ptr 10 0) → lookT 12 ts = .int .i64 i → keepO os [10, 37, 49, 71, 100, 108, 116, 124, 155, 38000, 38001, 38002, 50000, 50001, 50002, 72000, 72001, 72002, 101000, 101001, 101002, 109000, 109001, 109002, 117000, 117001, 117002, 125000, 125001, 125002, 156000, 156001, 156002] = [(10, objC D'.secs D'.pend D'.left D'.down)] → Q .normal ts os) →
          awl Tryz.prog f3b29 Q [(2, lst 3 (steps l)), (3, .int .i64 at_), (9, .bool true), (10, .k (.ptr 10 0)), (12, .int .i64 i), (14, .k (.ptr 14 0)), (15, .int .i64 e)] [(10, objC D.secs D.pend D.left D.down), (14, objC x.secs x.pend x.left x.down)] := by
        intro Q x e hx hQ
        have tail : ∀ D' : Disk, Right D' → awl Tryz.prog f3b24 Q [(2, lst 3 (steps l)), (3, .int .i64 at_), (9, .bool true), (10, .k (.ptr 10 0)), (12, .int .i64 i)] [(10, objC D'.secs D'.pend D'.left D'.down)] := by
          intro D' hR'
          have t1 := z16 D' hR'
          have t2 := b20 D' hR'
          have t3 := b24 D' hR'
          have t4 := b22 D' hR' at_
          generalize hrj : readJ D' = R at t1 t2 t3 t4
          obtain ⟨⟨rl, rb, rc⟩, re⟩ := R
          simp only [] at t1 t2 t3 t4
          have t5 := w26 rl rl
          rw [decide_eq_true rfl] at t5
          simp only [dV, encD] at t1 t2 t3 t4
          have u1 : getJ (⟨rl, rb, rc⟩, re) at_ = (if re = 0 ∧ ¬ (at_ < 0 ∨ at_ ≥ rl.length) then rl.getD at_.toNat [] else [], if re ≠ 0 then re else if at_ < 0 ∨ at_ ≥ rl.length then 4 else 0) := by
            unfold getJ
            by_cases q1 : re = 0
            · subst q1
              by_cases q2 : at_ < 0 ∨ at_ ≥ rl.length
              · rw [if_neg (by simp), if_pos q2, if_neg (fun h => h.2 q2), if_neg (by simp), if_pos q2]
              · rw [if_neg (by simp), if_neg q2, if_pos ⟨rfl, q2⟩, if_neg (by simp), if_neg q2]
            · rw [if_pos q1, if_neg (fun h => q1 h.1), if_pos q1]
          rw [u1] at t4
          by_cases q1 : re = 0
          · subst q1
            by_cases q2 : at_ < 0
            · rw [if_neg (fun h => h.2 (.inl q2)), if_neg (by simp), if_pos (.inl q2)] at t4
              simp only [q2, normRows_strs, normRows_wrs, normRows_steps, strs_len, Qs, if_true, Nat.reduceAdd, Nat.reduceBEq, id @f3r23.eq_1, uu f3b24.eq_1]
              refine call_r t1 ?_
              simp only [q2, normRows_strs, normRows_wrs, normRows_steps, strs_len, Qs, if_true, List.append_nil, Nat.reduceAdd, Nat.reduceMul, Nat.reduceBEq, id @f3r21.eq_1, uu f3b22.eq_1]
              refine call_r t2 ?_
              simp only [q2, normRows_strs, normRows_wrs, normRows_steps, strs_len, Qs, if_true, List.append_nil, Nat.reduceAdd, Nat.reduceMul, Nat.reduceBEq, id @f3r19.eq_1, uu f3b20.eq_1]
              refine call_s t3 ?_
              simp only [q2, normRows_strs, normRows_wrs, normRows_steps, strs_len, Qs, if_true, Nat.reduceAdd, Nat.reduceBEq, id @f3r17.eq_1, uu f3b18.eq_1]
              refine call_s t4 ?_
              simp only [q2, normRows_strs, normRows_wrs, normRows_steps, strs_len, Qs, if_true, Nat.reduceBEq, Int.reduceBNe, id @f3r14.eq_1, uu f3b15.eq_1, uu f3b16.eq_1]
              refine call_s t5 ?_
              simp only [q2, normRows_strs, normRows_wrs, normRows_steps, strs_len, Qs, q_AOp_dst_eq_11, q_AOp_dst_eq_22, q_exL_eq_12, q_vBinB_eq_1, if_true, if_false, forall_const, BEq.rfl, Nat.reduceBEq, Int.reduceBEq, Int.reduceBNe, uu f3b6.eq_1, id @f3r7.eq_1, uu f3b8.eq_1, id @f3r9.eq_1, uu f3b10.eq_1, id @f3r11.eq_1, uu f3b12.eq_1, uu f3b13.eq_1]
              exact hQ D' _ _ hR' rfl rfl rfl rfl rfl rfl
            · by_cases q3 : at_ ≥ rl.length
              · rw [if_neg (fun h => h.2 (.inr q3)), if_neg (by simp), if_pos (.inr q3)] at t4
                simp only [q2, q3, normRows_strs, normRows_wrs, normRows_steps, strs_len, Qs, if_true, Nat.reduceAdd, Nat.reduceBEq, id @f3r23.eq_1, uu f3b24.eq_1]
                refine call_r t1 ?_
                simp only [q2, q3, normRows_strs, normRows_wrs, normRows_steps, strs_len, Qs, if_true, List.append_nil, Nat.reduceAdd, Nat.reduceMul, Nat.reduceBEq, id @f3r21.eq_1, uu f3b22.eq_1]
                refine call_r t2 ?_
                simp only [q2, q3, normRows_strs, normRows_wrs, normRows_steps, strs_len, Qs, if_true, List.append_nil, Nat.reduceAdd, Nat.reduceMul, Nat.reduceBEq, id @f3r19.eq_1, uu f3b20.eq_1]
                refine call_s t3 ?_
                simp only [q2, q3, normRows_strs, normRows_wrs, normRows_steps, strs_len, Qs, if_true, Nat.reduceAdd, Nat.reduceBEq, id @f3r17.eq_1, uu f3b18.eq_1]
                refine call_s t4 ?_
                simp only [q2, q3, normRows_strs, normRows_wrs, normRows_steps, strs_len, Qs, if_true, Nat.reduceBEq, Int.reduceBNe, id @f3r14.eq_1, uu f3b15.eq_1, uu f3b16.eq_1]
                refine call_s t5 ?_
                simp only [q2, q3, normRows_strs, normRows_wrs, normRows_steps, strs_len, Qs, q_AOp_dst_eq_11, q_AOp_dst_eq_22, q_exL_eq_12, q_vBinB_eq_1, if_true, if_false, forall_const, BEq.rfl, Nat.reduceBEq, Int.reduceBEq, Int.reduceBNe, uu f3b6.eq_1, id @f3r7.eq_1, uu f3b8.eq_1, id @f3r9.eq_1, uu f3b10.eq_1, id @f3r11.eq_1, uu f3b12.eq_1, uu f3b13.eq_1]
                exact hQ D' _ _ hR' rfl rfl rfl rfl rfl rfl
              · rw [if_pos ⟨rfl, fun h => h.elim q2 q3⟩, if_neg (by simp), if_neg (fun h => h.elim q2 q3)] at t4
                obtain ⟨a, rfl⟩ : ∃ a : Nat, at_ = a := ⟨at_.toNat, by omega⟩
                have ha : a < rl.length := by omega
                have ha2 : (a : Int) < rl.length := by omega
                rw [Int.toNat_natCast, List.getD_eq_getElem?_getD, List.getElem?_eq_getElem ha, Option.getD_some] at t4
                simp only [q2, q3, ha2, strs_at ha, normRows_strs, normRows_wrs, normRows_steps, strs_len, Qs, if_true, Nat.reduceAdd, Nat.reduceBEq, id @f3r23.eq_1, uu f3b24.eq_1]
                refine call_r t1 ?_
                simp only [q2, q3, ha2, strs_at ha, normRows_strs, normRows_wrs, normRows_steps, strs_len, Qs, if_true, List.append_nil, Nat.reduceAdd, Nat.reduceMul, Nat.reduceBEq, id @f3r21.eq_1, uu f3b22.eq_1]
                refine call_r t2 ?_
                simp only [q2, q3, ha2, strs_at ha, normRows_strs, normRows_wrs, normRows_steps, strs_len, Qs, if_true, List.append_nil, Nat.reduceAdd, Nat.reduceMul, Nat.reduceBEq, id @f3r19.eq_1, uu f3b20.eq_1]
                refine call_s t3 ?_
                simp only [q2, q3, ha2, strs_at ha, normRows_strs, normRows_wrs, normRows_steps, strs_len, Qs, if_true, Nat.reduceAdd, Nat.reduceBEq, id @f3r17.eq_1, uu f3b18.eq_1]
                refine call_s t4 ?_
                simp only [q2, q3, ha2, strs_at ha, normRows_strs, normRows_wrs, normRows_steps, strs_len, Qs, if_true, Nat.reduceBEq, Int.reduceBNe, id @f3r14.eq_1, uu f3b15.eq_1, uu f3b16.eq_1]
                refine call_s t5 ?_
                simp only [q2, q3, ha2, strs_at ha, normRows_strs, normRows_wrs, normRows_steps, strs_len, Qs, q_AOp_dst_eq_11, q_AOp_dst_eq_22, q_exL_eq_12, q_vBinB_eq_1, if_true, if_false, forall_const, BEq.rfl, Nat.reduceBEq, Int.reduceBEq, Int.reduceBNe, uu f3b6.eq_1, id @f3r7.eq_1, uu f3b8.eq_1, id @f3r9.eq_1, uu f3b10.eq_1, id @f3r11.eq_1, uu f3b12.eq_1, uu f3b13.eq_1]
                exact hQ D' _ _ hR' rfl rfl rfl rfl rfl rfl
          · have q1' : (re == 0) = false := by simpa using q1
            have q1n : (re != 0) = true := by simpa using q1
            rw [if_neg (fun h => q1 h.1), if_pos q1] at t4
            simp only [q1, q1', q1n, normRows_strs, normRows_wrs, normRows_steps, strs_len, Qs, if_true, Nat.reduceAdd, Nat.reduceBEq, id @f3r23.eq_1, uu f3b24.eq_1]
            refine call_r t1 ?_
            simp only [q1, q1', q1n, normRows_strs, normRows_wrs, normRows_steps, strs_len, Qs, if_true, List.append_nil, Nat.reduceAdd, Nat.reduceMul, Nat.reduceBEq, id @f3r21.eq_1, uu f3b22.eq_1]
            refine call_r t2 ?_
            simp only [q1, q1', q1n, normRows_strs, normRows_wrs, normRows_steps, strs_len, Qs, if_true, List.append_nil, Nat.reduceAdd, Nat.reduceMul, Nat.reduceBEq, id @f3r19.eq_1, uu f3b20.eq_1]
            refine call_s t3 ?_
            simp only [q1, q1', q1n, normRows_strs, normRows_wrs, normRows_steps, strs_len, Qs, if_true, Nat.reduceAdd, Nat.reduceBEq, id @f3r17.eq_1, uu f3b18.eq_1]
            refine call_s t4 ?_
            simp only [q1, q1', q1n, normRows_strs, normRows_wrs, normRows_steps, strs_len, Qs, if_true, forall_const, Nat.reduceBEq, id @f3r11.eq_1, uu f3b12.eq_1, uu f3b13.eq_1, id @f3r14.eq_1, uu f3b15.eq_1, uu f3b16.eq_1]
            refine call_s t5 ?_
            simp only [q1, q1', q1n, normRows_strs, normRows_wrs, normRows_steps, strs_len, Qs, q_AOp_dst_eq_11, q_AOp_dst_eq_22, if_true, if_false, forall_const, BEq.rfl, Nat.reduceBEq, id @f3r4.eq_1, uu f3b5.eq_1, uu f3b6.eq_1, id @f3r7.eq_1, uu f3b8.eq_1, id @f3r9.eq_1, uu f3b10.eq_1, id @f3r11.eq_1, uu f3b12.eq_1, uu f3b13.eq_1]
            repeat' (first | (refine ⟨?_, ?_⟩) | (intro _) | exact hQ D' _ _ hR' rfl rfl rfl rfl rfl rfl)
        simp only [normRows_strs, normRows_wrs, normRows_steps, strs_len, Qs, if_true, if_false, List.append_nil, Nat.reduceAdd, Nat.reduceLeDiff, Nat.reduceBEq, id @f3r25.eq_1, uu f3b26.eq_1, id @f3r27.eq_1, uu f3b28.eq_1, uu f3b29.eq_1]
        exact ⟨fun g => tail x (hx (.inl g)), fun _ => ⟨fun g8 => ⟨fun g => tail x (hx (.inr ⟨g8, fun e => by rw [e] at g; simp at g⟩)), fun _ => tail D hR⟩, fun _ => tail D hR⟩⟩
      by_cases hlt : i < l.length
      · have c1 : (i : Int) < l.length := by omega
        have c4 : IntKind.i64.wrap ((i : Int) + 1) = (i : Int) + 1 := wrap_in (by omega) (by omega)
        have hst := steps_at hlt
        generalize l[i].kind = kind at hst
        generalize l[i].s = st at hst
        generalize l[i].n = num at hst
        by_cases h100 : (st.length : Int) > 100
        · simp only [c1, hst, h100, steps_len, normRows_strs, normRows_wrs, normRows_steps, Qs, if_true, if_false, bne_iff_ne, ne_eq, List.append_nil, List.nodup_nil, Nat.reduceAdd, Nat.reduceEqDiff, Nat.reduceLeDiff, Nat.reduceBEq, id @f3r3.eq_1, id @f3r76.eq_1, uu f3b77.eq_1, uu f3b78.eq_1, id @f3r79.eq_1, uu f3b80.eq_1, uu f3b81.eq_1, id @f3r82.eq_1, uu f3b83.eq_1, uu f3b84.eq_1, uu f3b85.eq_1, uu f3b86.eq_1, id @f3r87.eq_1, uu f3b88.eq_1, uu f3b89.eq_1]
          exact hS
        · have zA := z8 D hR st (by omega)
          have hLA := left_append hR st
          have bA := b11 D hR st (by omega)
          have zS := z10 (appendJ D st).1 hLA.small.1 hLA.small.2
          simp only [dV, encD] at zA bA zS
          simp only [c1, hst, h100, steps_len, normRows_strs, normRows_wrs, normRows_steps, Qs, if_true, if_false, bne_iff_ne, ne_eq, List.append_nil, Nat.reduceAdd, Nat.reduceEqDiff, Nat.reduceLeDiff, Nat.reduceBEq, id @f3r3.eq_1, id @f3r74.eq_1, uu f3b75.eq_1, uu f3b78.eq_1, id @f3r79.eq_1, uu f3b80.eq_1, uu f3b81.eq_1, id @f3r82.eq_1, uu f3b83.eq_1, uu f3b84.eq_1, uu f3b85.eq_1, uu f3b86.eq_1, id @f3r87.eq_1, uu f3b88.eq_1, uu f3b89.eq_1]
          generalize hap : appendJ D st = X at zA bA hLA zS
          obtain ⟨⟨xs, xp, xl, xd⟩, xe⟩ := X
          refine call_r zA ?_
          by_cases k0 : kind = 0
          · subst k0
            simp only [resD, dV, encD, normRows_strs, normRows_wrs, normRows_steps, Qs, if_true, if_false, bne_iff_ne, ne_eq, BEq.rfl, List.append_nil, Nat.reduceAdd, Nat.reduceMul, Nat.reduceEqDiff, Nat.reduceLeDiff, Nat.reduceBEq, id @f3r68.eq_1, uu f3b69.eq_1, uu f3b70.eq_1, id @f3r71.eq_1, uu f3b72.eq_1, uu f3b73.eq_1]
            refine call_r bA ?_
            simp only [resD, dV, encD, normRows_strs, normRows_wrs, normRows_steps, Qs, if_true, forall_const, bne_iff_ne, ne_eq, List.append_nil, List.nodup_nil, Nat.reduceAdd, Nat.reduceMul, Nat.reduceEqDiff, Nat.reduceBEq, id @f3r63.eq_1, uu f3b64.eq_1, uu f3b65.eq_1, id @f3r66.eq_1, uu f3b67.eq_1]
            refine call_s zS ?_
            simp only [normRows_strs, normRows_wrs, normRows_steps, Qs, if_true, if_false, Nat.reduceAdd, Nat.reduceLeDiff, Nat.reduceBEq, Int.reduceBEq, uu f3b31.eq_1, id @f3r32.eq_1, uu f3b33.eq_1, uu f3b34.eq_1, uu f3b44.eq_1, id @f3r45.eq_1, uu f3b46.eq_1, uu f3b47.eq_1, id @f3r48.eq_1, uu f3b49.eq_1, id @f3r50.eq_1, uu f3b51.eq_1, uu f3b52.eq_1, id @f3r53.eq_1, uu f3b54.eq_1, id @f3r55.eq_1, uu f3b56.eq_1, uu f3b57.eq_1, id @f3r58.eq_1, uu f3b59.eq_1, id @f3r60.eq_1, uu f3b61.eq_1, uu f3b62.eq_1, uu f3b65.eq_1]
            refine rest _ ⟨xs, xp, xl, xd⟩ xe (fun g => hLA.good g) (fun D' ts os h1 g2 g3 g9 g10 g12 h3 => ?_)
            simp only [g2, g3, g9, g10, g12, c4, Qs, if_true]
            exact Next.intro (i + 1, D') (by simp [keepT, lookT, g2, g3, g9, g10]) h3 ⟨by show i + 1 ≤ l.length; omega, h1⟩ (by show l.length - (i + 1) < l.length - i; omega)
          · by_cases k1 : kind = 1
            · subst k1
              have zB := r25 D hR num
              have hLB := left_arm hR num
              simp only [dV, encD] at zB
              simp only [resD, dV, encD, normRows_strs, normRows_wrs, normRows_steps, Qs, if_true, if_false, bne_iff_ne, ne_eq, BEq.rfl, List.append_nil, Nat.reduceAdd, Nat.reduceMul, Nat.reduceEqDiff, Nat.reduceLeDiff, Nat.reduceBEq, Int.reduceBEq, id @f3r58.eq_1, uu f3b59.eq_1, id @f3r60.eq_1, uu f3b61.eq_1, uu f3b62.eq_1, uu f3b70.eq_1, id @f3r71.eq_1, uu f3b72.eq_1, uu f3b73.eq_1]
              generalize armD D num = Y at zB hLB
              obtain ⟨⟨ys, yp, yl, yd⟩, ye⟩ := Y
              refine call_r zB ?_
              simp only [resD, dV, encD, normRows_strs, normRows_wrs, normRows_steps, Qs, if_true, if_false, List.append_nil, Nat.reduceAdd, Nat.reduceMul, Nat.reduceLeDiff, Nat.reduceBEq, Int.reduceBEq, uu f3b31.eq_1, id @f3r32.eq_1, uu f3b33.eq_1, uu f3b34.eq_1, uu f3b44.eq_1, id @f3r45.eq_1, uu f3b46.eq_1, uu f3b47.eq_1, id @f3r48.eq_1, uu f3b49.eq_1, id @f3r50.eq_1, uu f3b51.eq_1, uu f3b52.eq_1, id @f3r53.eq_1, uu f3b54.eq_1, id @f3r55.eq_1, uu f3b56.eq_1, uu f3b57.eq_1]
              refine rest _ ⟨ys, yp, yl, yd⟩ ye (fun g => hLB.good g) (fun D' ts os h1 g2 g3 g9 g10 g12 h3 => ?_)
              simp only [g2, g3, g9, g10, g12, c4, Qs, if_true]
              exact Next.intro (i + 1, D') (by simp [keepT, lookT, g2, g3, g9, g10]) h3 ⟨by show i + 1 ≤ l.length; omega, h1⟩ (by show l.length - (i + 1) < l.length - i; omega)
            · by_cases k2 : kind = 2
              · subst k2
                have zB := z12 D hR
                have hLB := left_cut hR
                simp only [dV, encD] at zB
                simp only [resD, dV, encD, normRows_strs, normRows_wrs, normRows_steps, Qs, if_true, if_false, bne_iff_ne, ne_eq, BEq.rfl, List.append_nil, Nat.reduceAdd, Nat.reduceMul, Nat.reduceEqDiff, Nat.reduceLeDiff, Nat.reduceBEq, Int.reduceBEq, id @f3r53.eq_1, uu f3b54.eq_1, id @f3r55.eq_1, uu f3b56.eq_1, uu f3b57.eq_1, id @f3r58.eq_1, uu f3b59.eq_1, id @f3r60.eq_1, uu f3b61.eq_1, uu f3b62.eq_1, uu f3b70.eq_1, id @f3r71.eq_1, uu f3b72.eq_1, uu f3b73.eq_1]
                generalize cutD D = Y at zB hLB
                obtain ⟨⟨ys, yp, yl, yd⟩, ye⟩ := Y
                refine call_r zB ?_
                simp only [resD, dV, encD, normRows_strs, normRows_wrs, normRows_steps, Qs, if_true, if_false, List.append_nil, Nat.reduceAdd, Nat.reduceMul, Nat.reduceLeDiff, Nat.reduceBEq, Int.reduceBEq, uu f3b31.eq_1, id @f3r32.eq_1, uu f3b33.eq_1, uu f3b34.eq_1, uu f3b44.eq_1, id @f3r45.eq_1, uu f3b46.eq_1, uu f3b47.eq_1, id @f3r48.eq_1, uu f3b49.eq_1, id @f3r50.eq_1, uu f3b51.eq_1, uu f3b52.eq_1]
                refine rest _ ⟨ys, yp, yl, yd⟩ ye (fun g => hLB.good g) (fun D' ts os h1 g2 g3 g9 g10 g12 h3 => ?_)
                simp only [g2, g3, g9, g10, g12, c4, Qs, if_true]
                exact Next.intro (i + 1, D') (by simp [keepT, lookT, g2, g3, g9, g10]) h3 ⟨by show i + 1 ≤ l.length; omega, h1⟩ (by show l.length - (i + 1) < l.length - i; omega)
              · by_cases k3 : kind = 3
                · subst k3
                  have zB := r26 D hR
                  have hLB := left_start hR
                  simp only [dV, encD] at zB
                  simp only [resD, dV, encD, normRows_strs, normRows_wrs, normRows_steps, Qs, if_true, if_false, bne_iff_ne, ne_eq, BEq.rfl, List.append_nil, Nat.reduceAdd, Nat.reduceMul, Nat.reduceEqDiff, Nat.reduceLeDiff, Nat.reduceBEq, Int.reduceBEq, id @f3r48.eq_1, uu f3b49.eq_1, id @f3r50.eq_1, uu f3b51.eq_1, uu f3b52.eq_1, id @f3r53.eq_1, uu f3b54.eq_1, id @f3r55.eq_1, uu f3b56.eq_1, uu f3b57.eq_1, id @f3r58.eq_1, uu f3b59.eq_1, id @f3r60.eq_1, uu f3b61.eq_1, uu f3b62.eq_1, uu f3b70.eq_1, id @f3r71.eq_1, uu f3b72.eq_1, uu f3b73.eq_1]
                  generalize startD D = Y at zB hLB
                  obtain ⟨⟨ys, yp, yl, yd⟩, ye⟩ := Y
                  refine call_r zB ?_
                  simp only [resD, dV, encD, normRows_strs, normRows_wrs, normRows_steps, Qs, if_true, if_false, List.append_nil, Nat.reduceAdd, Nat.reduceMul, Nat.reduceLeDiff, Nat.reduceBEq, Int.reduceBEq, uu f3b31.eq_1, id @f3r32.eq_1, uu f3b33.eq_1, uu f3b34.eq_1, uu f3b44.eq_1, id @f3r45.eq_1, uu f3b46.eq_1, uu f3b47.eq_1]
                  refine rest _ ⟨ys, yp, yl, yd⟩ ye (fun g => hLB.good g) (fun D' ts os h1 g2 g3 g9 g10 g12 h3 => ?_)
                  simp only [g2, g3, g9, g10, g12, c4, Qs, if_true]
                  exact Next.intro (i + 1, D') (by simp [keepT, lookT, g2, g3, g9, g10]) h3 ⟨by show i + 1 ≤ l.length; omega, h1⟩ (by show l.length - (i + 1) < l.length - i; omega)
                · by_cases k4 : kind = 4
                  · subst k4
                    have zB := z7 D hR
                    have hLB := left_format hR
                    have bB := b17 D hR
                    have zS2 := z10 (formatJ D).1 hLB.small.1 hLB.small.2
                    simp only [dV, encD] at zB bB zS2
                    simp only [resD, dV, encD, normRows_strs, normRows_wrs, normRows_steps, Qs, if_true, if_false, bne_iff_ne, ne_eq, BEq.rfl, List.append_nil, Nat.reduceAdd, Nat.reduceMul, Nat.reduceEqDiff, Nat.reduceLeDiff, Nat.reduceBEq, Int.reduceBEq, id @f3r42.eq_1, uu f3b43.eq_1, uu f3b44.eq_1, id @f3r45.eq_1, uu f3b46.eq_1, uu f3b47.eq_1, id @f3r48.eq_1, uu f3b49.eq_1, id @f3r50.eq_1, uu f3b51.eq_1, uu f3b52.eq_1, id @f3r53.eq_1, uu f3b54.eq_1, id @f3r55.eq_1, uu f3b56.eq_1, uu f3b57.eq_1, id @f3r58.eq_1, uu f3b59.eq_1, id @f3r60.eq_1, uu f3b61.eq_1, uu f3b62.eq_1, uu f3b70.eq_1, id @f3r71.eq_1, uu f3b72.eq_1, uu f3b73.eq_1]
                    generalize formatJ D = Y at zB hLB bB zS2
                    obtain ⟨⟨ys, yp, yl, yd⟩, ye⟩ := Y
                    refine call_r zB ?_
                    simp only [resD, dV, encD, normRows_strs, normRows_wrs, normRows_steps, Qs, if_true, List.append_nil, Nat.reduceAdd, Nat.reduceMul, Nat.reduceBEq, id @f3r40.eq_1, uu f3b41.eq_1]
                    refine call_r bB ?_
                    simp only [resD, dV, encD, normRows_strs, normRows_wrs, normRows_steps, Qs, if_true, forall_const, bne_iff_ne, ne_eq, List.append_nil, List.nodup_nil, Nat.reduceAdd, Nat.reduceMul, Nat.reduceEqDiff, Nat.reduceBEq, id @f3r35.eq_1, uu f3b36.eq_1, uu f3b37.eq_1, id @f3r38.eq_1, uu f3b39.eq_1]
                    refine call_s zS2 ?_
                    simp only [resD, dV, encD, normRows_strs, normRows_wrs, normRows_steps, Qs, if_true, if_false, Nat.reduceAdd, Nat.reduceLeDiff, Nat.reduceBEq, Int.reduceBEq, uu f3b31.eq_1, id @f3r32.eq_1, uu f3b33.eq_1, uu f3b34.eq_1, uu f3b37.eq_1]
                    refine rest _ ⟨ys, yp, yl, yd⟩ ye (fun g => hLB.good g) (fun D' ts os h1 g2 g3 g9 g10 g12 h3 => ?_)
                    simp only [g2, g3, g9, g10, g12, c4, Qs, if_true]
                    exact Next.intro (i + 1, D') (by simp [keepT, lookT, g2, g3, g9, g10]) h3 ⟨by show i + 1 ≤ l.length; omega, h1⟩ (by show l.length - (i + 1) < l.length - i; omega)
                  · by_cases k5 : kind = 5
                    · subst k5
                      have zB := z15 D hR num (st.take 16)
                      have hLB := left_write hR num (st.take 16)
                      simp only [dV, encD] at zB
                      have w16 : (if ((16 : Int)) < (st.length : Int) then (16 : Int) else (st.length : Int)).toNat = min st.length 16 := by split <;> omega
                      have w17 : st.take (min st.length 16) = st.take 16 := by rw [Nat.min_comm, ← List.take_take, List.take_length]
                      simp only [resD, dV, encD, normRows_strs, normRows_wrs, normRows_steps, Qs, q_exLQ_eq_37, q_vInts_eq_1, q_vInts_eq_2, q_foldV_eq_1, q_vMinmax_eq_1, q_minmaxI_eq_1, if_true, if_false, bne_iff_ne, ne_eq, BEq.rfl, List.append_nil, Nat.reduceAdd, Nat.reduceMul, Nat.reduceEqDiff, Nat.reduceLeDiff, Nat.reduceBEq, Int.reduceLE, Int.reduceBEq, id @f3r30o0.eq_1, id @f3r30o1.eq_1, id @f3r30o2.eq_1, id @f3r30o3.eq_1, id @f3r30o4.eq_1, id @f3r30o5.eq_1, id @f3r30o6.eq_1, id @f3r30o7.eq_1, id @f3r30o8.eq_1, id @f3r30o9.eq_1, id @f3r30o10.eq_1, id @f3r30o11.eq_1, id @f3r30o12.eq_1, id @f3r30o13.eq_1, id @f3r30o14.eq_1, id @f3r30o15.eq_1, utf3r30, uu f3b31.eq_1, id @f3r32.eq_1, uu f3b33.eq_1, uu f3b34.eq_1, uu f3b44.eq_1, id @f3r45.eq_1, uu f3b46.eq_1, uu f3b47.eq_1, id @f3r48.eq_1, uu f3b49.eq_1, id @f3r50.eq_1, uu f3b51.eq_1, uu f3b52.eq_1, id @f3r53.eq_1, uu f3b54.eq_1, id @f3r55.eq_1, uu f3b56.eq_1, uu f3b57.eq_1, id @f3r58.eq_1, uu f3b59.eq_1, id @f3r60.eq_1, uu f3b61.eq_1, uu f3b62.eq_1, uu f3b70.eq_1, id @f3r71.eq_1, uu f3b72.eq_1, uu f3b73.eq_1]
                      generalize writeD D num (st.take 16) = Y at zB hLB
                      obtain ⟨⟨ys, yp, yl, yd⟩, ye⟩ := Y
                      rw [w16, w17]
                      refine ⟨⟨by split <;> omega, by split <;> omega⟩, callQ_R zB ?_ rfl (by simp [lendL, V.norm, C.normRow, norm_list, norm_lst, normRows_strs, normRows_wrs]) rfl⟩
                      simp only [resD, dV, encD, normRows_strs, normRows_wrs, normRows_steps, Qs, List.append_nil, Nat.reduceAdd, Nat.reduceBEq]
                      refine rest _ ⟨ys, yp, yl, yd⟩ ye (fun g => hLB.good g) (fun D' ts os h1 g2 g3 g9 g10 g12 h3 => ?_)
                      simp only [g2, g3, g9, g10, g12, c4, Qs, if_true]
                      exact Next.intro (i + 1, D') (by simp [keepT, lookT, g2, g3, g9, g10]) h3 ⟨by show i + 1 ≤ l.length; omega, h1⟩ (by show l.length - (i + 1) < l.length - i; omega)
                    · simp only [k0, k1, k2, k3, k4, k5, resD, dV, encD, normRows_strs, normRows_wrs, normRows_steps, Qs, q_exLQ_eq_37, q_vInts_eq_1, q_vInts_eq_2, q_foldV_eq_1, q_vMinmax_eq_1, q_minmaxI_eq_1, if_true, if_false, forall_const, bne_iff_ne, ne_eq, List.append_nil, Nat.reduceAdd, Nat.reduceMul, Nat.reduceEqDiff, Nat.reduceLeDiff, Nat.reduceBEq, Int.reduceLE, id @f3r30o0.eq_1, id @f3r30o1.eq_1, id @f3r30o2.eq_1, id @f3r30o3.eq_1, id @f3r30o4.eq_1, id @f3r30o5.eq_1, id @f3r30o6.eq_1, id @f3r30o7.eq_1, id @f3r30o8.eq_1, id @f3r30o9.eq_1, id @f3r30o10.eq_1, id @f3r30o11.eq_1, id @f3r30o12.eq_1, id @f3r30o13.eq_1, id @f3r30o14.eq_1, id @f3r30o15.eq_1, utf3r30, uu f3b31.eq_1, id @f3r32.eq_1, uu f3b33.eq_1, uu f3b34.eq_1, id @f3r42.eq_1, uu f3b43.eq_1, uu f3b44.eq_1, id @f3r45.eq_1, uu f3b46.eq_1, uu f3b47.eq_1, id @f3r48.eq_1, uu f3b49.eq_1, id @f3r50.eq_1, uu f3b51.eq_1, uu f3b52.eq_1, id @f3r53.eq_1, uu f3b54.eq_1, id @f3r55.eq_1, uu f3b56.eq_1, uu f3b57.eq_1, id @f3r58.eq_1, uu f3b59.eq_1, id @f3r60.eq_1, uu f3b61.eq_1, uu f3b62.eq_1, id @f3r68.eq_1, uu f3b69.eq_1, uu f3b70.eq_1, id @f3r71.eq_1, uu f3b72.eq_1, uu f3b73.eq_1]
                      refine rest _ ⟨xs, xp, xl, xd⟩ xe (fun g => hLA.good g) (fun D' ts os h1 g2 g3 g9 g10 g12 h3 => ?_)
                      simp only [g2, g3, g9, g10, g12, c4, Qs, if_true]
                      exact Next.intro (i + 1, D') (by simp [keepT, lookT, g2, g3, g9, g10]) h3 ⟨by show i + 1 ≤ l.length; omega, h1⟩ (by show l.length - (i + 1) < l.length - i; omega)
      · obtain rfl : i = l.length := by omega
        have c1 : ¬ (l.length : Int) < l.length := by omega
        simp only [c1, steps_len, normRows_strs, normRows_wrs, normRows_steps, Qs, if_true, List.nodup_nil, Nat.reduceBEq, id @f3r1.eq_1, uu f3b2.eq_1, uu f3b86.eq_1, id @f3r87.eq_1, uu f3b88.eq_1, uu f3b89.eq_1]
        exact hS
    refine call_s c6 ?_
    simp only [normRows_strs, normRows_wrs, normRows_steps, Qs]
    refine call_r c5 ?_
    have hRn := right_new (n := k) (by omega) (by omega)
    cases fm
    · simp only [normRows_strs, normRows_wrs, normRows_steps, Qs, List.append_nil, Nat.reduceAdd, Nat.reduceMul, Nat.reduceBEq, uu f3b91.eq_1, id @f3r92.eq_1, uu f3b93.eq_1, uu f3b94.eq_1, id @f3r95.eq_1, uu f3b96.eq_1, id @f3r97.eq_1, uu f3b98.eq_1, uu f3b99.eq_1]
      exact key (newD k) _ _ hRn rfl rfl
    · have hnl : (newD k).secs.length = k := by simp [newD]
      by_cases h2 : (k : Int) > 2
      · have c7 := z7 _ hRn
        obtain ⟨d, hd, hdi, _⟩ := format_ok (n := k) (by omega) (by omega)
        rw [hd] at c7
        simp only [resD, dV, encD] at c7
        simp only [h2, hnl, strs_len, normRows_strs, normRows_wrs, normRows_steps, Qs, if_true, if_false, List.append_nil, Nat.reduceAdd, Nat.reduceMul, Nat.reduceLeDiff, Nat.reduceBEq, id @f3r95.eq_1, uu f3b96.eq_1, id @f3r97.eq_1, uu f3b98.eq_1, uu f3b99.eq_1]
        refine call_r c7 ?_
        simp only [normRows_strs, normRows_wrs, normRows_steps, Qs, List.append_nil, Nat.reduceAdd, Nat.reduceMul, Nat.reduceBEq, uu f3b91.eq_1, id @f3r92.eq_1, uu f3b93.eq_1, uu f3b94.eq_1]
        exact key d _ _ hdi.right rfl rfl
      · simp only [h2, hnl, strs_len, normRows_strs, normRows_wrs, normRows_steps, Qs, if_true, if_false, List.append_nil, Nat.reduceAdd, Nat.reduceMul, Nat.reduceLeDiff, Nat.reduceBEq, uu f3b91.eq_1, id @f3r92.eq_1, uu f3b93.eq_1, uu f3b94.eq_1, id @f3r95.eq_1, uu f3b96.eq_1, id @f3r97.eq_1, uu f3b98.eq_1, uu f3b99.eq_1]
        exact key (newD k) _ _ hRn rfl rfl
end Go.Abs


set_option maxRecDepth 100000
namespace Go.Abs
theorem wf_inI {m : Int} (h : (Lit.int .i64 m).wf = true) : -9223372036854775808 ≤ m ∧ m ≤ 9223372036854775807 := by
  have := (Lit.wf_int_iff _ _).1 h
  simpa [IntKind.min, IntKind.max, IntKind.signed, IntKind.bits] using this
section
variable {P : Program}
theorem arg_i64 {n : Nat} {t : TypeId} {r : List C} (ht : P.underlying t = some (.int .i64)) (hr : Shape P n t r) : ∃ m : Int, argV P t r = .int .i64 m ∧ (-9223372036854775808 ≤ m ∧ m ≤ 9223372036854775807) := by
  obtain ⟨m, rfl, h⟩ := shape_int ht hr
  exact ⟨m, by simp only [argV, ht], wf_inI h⟩
theorem arg_bool {n : Nat} {t : TypeId} {r : List C} (ht : P.underlying t = some .bool) (hr : Shape P n t r) : ∃ b : Bool, argV P t r = .bool b := by
  obtain ⟨b, rfl⟩ := shape_bool ht hr
  exact ⟨b, by simp only [argV, ht]⟩
end
theorem ifc_trod {H : Type} {enc : TypeId × Value → H} {P : Program} {w : World} {base : Nat} {sp : Nat → Bool} {held : Bool} {fuel : Nat} {t : TypeId} {ms : Array (String × TypeId)} {cs : List Value} {x : DataW H × List MemPlace}
    (ht : P.underlying t = some (.interface ms)) (h : DataW.trod enc P w base sp held fuel t cs = some x) : ∃ v, cs = [v] ∧ (v = .nilIface ∨ ∃ t p, v = .iface t p) := by
  cases fuel with
  | zero => simp [DataW.trod] at h
  | succ n =>
    unfold DataW.trod at h
    rw [ht] at h
    split at h <;> simp_all
end Go.Abs
namespace Go.Abs
theorem shape_step {P : Program} {n : Nat} {t tI tS : TypeId} {fs : Array Field} {r : List C} (ht : P.underlying t = some (.struct fs)) (hf : fs.toList.map (·.type) = [tI, tS, tI]) (hi : P.underlying tI = some (.int .i64)) (hs : P.underlying tS = some .string) (hr : Shape P n t r) : ∃ x : Stp, r = encP x := by
  obtain ⟨m, rs, _, rfl, h⟩ := shape_struct ht hr
  rw [hf] at h
  obtain ⟨x, y, z, rfl, hx, hy, hz⟩ := shapeL3 h
  obtain ⟨a, rfl, _⟩ := shape_int hi hx
  obtain ⟨b, rfl, _⟩ := shape_str hs hy
  obtain ⟨c, rfl, _⟩ := shape_int hi hz
  exact ⟨⟨a, b, c⟩, rfl⟩
theorem arg_steps {P : Program} {n : Nat} {t e tI tS : TypeId} {fs : Array Field} {r : List C} (ht : P.underlying t = some (.slice e)) (he : P.underlying e = some (.struct fs)) (hf : fs.toList.map (·.type) = [tI, tS, tI]) (hi : P.underlying tI = some (.int .i64)) (hs : P.underlying tS = some .string) (hc : P.cellsOf e = 3) (hr : Shape P n t r) : ∃ l : List Stp, argV P t r = lst 3 (steps l) := by
  obtain ⟨m, rows, rfl, rfl, _, h⟩ := shape_slice ht hr
  obtain ⟨l, rfl⟩ := rows_of encP (fun r hr => shape_step he hf hi hs hr) rows h
  exact ⟨l, by simp only [argV, ht, hc]; rfl⟩
end Go.Abs
namespace Go.Proofs.YtdgcoipbcloieaaGreatDoor
open Go.Abs Go.RowKit Go.ChangeShapes Go.WideShapes Go.ChangeAt Go.WideMaps Go.WideElems Go.Wire
theorem own : ownKnob Tryz.prog.godebug = none := by kernel_rfl
theorem kids : Kids Tryz.prog (· < Tryz.prog.types.size) := kids_rows (by kernel_rfl) (by kernel_rfl)
theorem full : ∀ t e, t < Tryz.prog.types.size → Tryz.prog.underlying t = some (.slice e) → 0 < Tryz.prog.cellsOf e := slices_full_of Tryz.prog (by kernel_rfl)
def plainTs : List TypeId := [3, 4, 9, 22, 34]
theorem plainTs_ok : plainT Tryz.prog plainTs = true := by kernel_rfl
theorem plainTs_lt : ∀ t ∈ plainTs, t < Tryz.prog.types.size := by
  have : plainTs.all (fun t => decide (t < Tryz.prog.types.size)) = true := by kernel_rfl
  simpa using this
abbrev laidL : List (String × DataW Unit) := Rows.journalTellsRow.laid
theorem block_of {W : World} {name : String} {g : Nat} {cs : Array Value} (hn : Tryz.prog.globalNamed name = some g) (hv : W.var? Tryz.prog name = some cs) : ∃ t f, W.heap[g]? = some (.cells cs t f) := by
  unfold World.var? at hv
  rw [hn, Option.bind_some] at hv
  split at hv
  · rename_i h
    cases hv
    exact ⟨_, _, h⟩
  · cases hv
theorem err_of {W : World} (h : laidMet Tryz.prog laidL W) {name : String} {g : Nat} {d : DataW Unit} (hn : Tryz.prog.globalNamed name = some g) (ht : (Tryz.prog.globals[g]?).map (·.type) = some 76) (hm : (name, d) ∈ laidL) :
    g < W.heap.size ∧ ∃ b, W.heap[g]? = some b ∧ cell0 (fun v => v = .nilIface ∨ ∃ t p, v = .iface t p) b := by
  obtain ⟨g', t', cs, fuel, p, hg, hty, hvar, hd⟩ := Lib.laidMet.reads h hm
  obtain rfl := Option.some.inj (hn.symm.trans hg)
  obtain rfl := Option.some.inj (ht.symm.trans hty)
  obtain ⟨v, e, hv⟩ := ifc_trod Tryz.underlying76 hd
  obtain ⟨t, f, hb⟩ := block_of hn hvar
  refine ⟨(Array.getElem?_eq_some_iff.1 hb).1, _, hb, v, ?_, hv⟩
  rw [← Array.getElem?_toList, e]; rfl
theorem glob_of {W : World} (hL : laidMetH Tryz.prog laidL W) (hsh : W.ShapedOpen Tryz.prog) : GlobB (Go.Abs.base W) := by
  rw [MakeChecks.laidMetH_plain _ _ _ (by kernel_rfl)] at hL
  refine ⟨(fun _ _ h => nomatch h), fun g p hg => ?_⟩
  match g, hg with
  | 0, hg =>
    cases hg
    obtain ⟨m, hm⟩ := cell_of_shapedOpen_int (zero := #[.int .i64 0]) (t := 3) (k := .i64) (g := 0) hsh (of_decide_eq_true (by kernel_rfl)) (by kernel_rfl) rfl (by kernel_rfl) (by kernel_rfl) Tryz.underlying3
    unfold World.cell? at hm
    cases hb : W.heap[0]? with
    | none => rw [hb] at hm; simp at hm
    | some ob =>
      refine ⟨(Array.getElem?_eq_some_iff.1 hb).1, ob, rfl, ?_⟩
      rw [hb] at hm
      cases ob with
      | cells cs t f => exact ⟨_, by simpa using hm, m, rfl⟩
      | _ => simp at hm
  | 1, hg => cases hg; exact err_of hL (name := "strconv.ErrSyntax") (by kernel_rfl) (by kernel_rfl) ((.tail _ (.tail _ (.tail _ (.tail _ (.head _))))))
  | 2, hg => cases hg; exact err_of hL (name := "strconv.ErrRange") (by kernel_rfl) (by kernel_rfl) ((.tail _ (.tail _ (.tail _ (.head _)))))
  | 3, hg =>
    cases hg
    obtain ⟨g', t', cs, fuel, p, hg', hty, hvar, hd⟩ := Lib.laidMet.reads hL (n := "internal/strconv.uint64pow10") ((.tail _ (.tail _ (.head _))))
    have hn : Tryz.prog.globalNamed "internal/strconv.uint64pow10" = some 3 := by kernel_rfl
    obtain rfl := Option.some.inj (hn.symm.trans hg')
    have hT : (Tryz.prog.globals[3]?).map (·.type) = some 119 := by kernel_rfl
    obtain rfl := Option.some.inj (hT.symm.trans hty)
    obtain ⟨t, f, hb⟩ := block_of hn hvar
    refine ⟨(Array.getElem?_eq_some_iff.1 hb).1, _, hb, ?_⟩
    have hd' : DataW.trod (fun _ => ()) Tryz.prog W 0 (fun _ => true) false fuel 119 cs.toList = some (Lib.tabData .u64 pow10T, p) := hd
    have e := Lib.cells_of_tab Tryz.underlying119 Tryz.underlying92 (by kernel_rfl) (by kernel_rfl) hd'
    show cs = _
    rw [← e]
theorem door_met (os : Os) (args : Array Value) : laidMetH Tryz.prog laidL ((World.doorLaid Tryz.prog 400 os).forCall (fun _ _ => 0) ⟨#[], args, []⟩).memory :=
  laidMetH_of_parts3 (fuel := 8) (laidMet_of_run' 8 (by kernel_rfl) (by kernel_rfl)) (by kernel_rfl) (by kernel_rfl)
end Go.Proofs.YtdgcoipbcloieaaGreatDoor


set_option maxRecDepth 100000
namespace Go.Proofs.YtdgcoipbcloieaaGreatDoor
open Go.Abs Go.RowKit Go.ChangeShapes Go.WideShapes Go.ChangeAt Go.WideMaps Go.WideElems Go.Wire
theorem spec3 (xs : List V) (h : ArgsOf Tryz.prog [3, 4, 22, 3] xs) : Go.Abs.Spec Tryz.prog 3 xs (fun r => r = .bool true) := by
  match xs, h with
  | [a0, a1, a2, a3], ⟨⟨_, _, h0, q0⟩, ⟨_, _, h1, q1⟩, ⟨_, _, h2, q2⟩, ⟨_, _, h3, q3⟩, _⟩ =>
    obtain ⟨x0, e0, _⟩ := arg_i64 Tryz.underlying3 h0
    obtain ⟨x1, e1⟩ := arg_bool Tryz.underlying4 h1
    obtain ⟨x2, e2⟩ := arg_steps Tryz.underlying22 Tryz.underlying34 rfl Tryz.underlying3 Tryz.underlying9 (by kernel_rfl) h2
    obtain ⟨x3, e3, _⟩ := arg_i64 Tryz.underlying3 h3
    rw [q0, q1, q2, q3, e0, e1, e2, e3]
    exact l3 x0 x1 x2 x3
theorem reads3 (os : Os) {H : Type} (enc : TypeId × Value → H) : ∃ places, DataW.whole enc Tryz.prog ((World.doorLaid Tryz.prog 400 os).forCall (fun _ _ => 0) ⟨#[], #[Value.int .i64 0, .bool false, .slice none 0 0, .int .i64 0], []⟩).memory Tryz.f3.params.toList Rows.journalTellsSpec.vars false #[Value.int .i64 0, .bool false, .slice none 0 0, .int .i64 0].toList 8 = some ([.lit (.int .i64 0), .lit (.bool false), .nil, .lit (.int .i64 0)], [], places) :=
  ⟨[], by kernel_rfl⟩
theorem lifted3 (os : Os) (started : os.Started) (H : Type) (enc : TypeId × Value → H) (F : Stop.Interp) :
    ReturnsInHanded {} Tryz.checked os 3 .any ((OpenSpec.ofChange Rows.journalTellsSpec).preRow enc Tryz.prog Tryz.f3 Rows.journalTellsRow.domain false Rows.journalTellsRow.laid) (((OpenSpec.ofChange Rows.journalTellsSpec).at F).post enc Tryz.prog Tryz.f3 false true false false) := by
  obtain ⟨places, hx⟩ := reads3 os enc
  refine returnsInHanded_of_row (C := Tryz.checked) (s := OpenSpec.ofChange Rows.journalTellsSpec) own started (by kernel_rfl) Tryz.func3
    (witness_row_atRef (enc := enc) (C := Tryz.checked) false (World.doorLaid Tryz.prog 400 os) #[Value.int .i64 0, .bool false, .slice none 0 0, .int .i64 0] rfl (by kernel_rfl) (by kernel_rfl) (by kernel_rfl)
      (OpenSpec.preRow_of_cond 8 hx (by kernel_rfl) (fun k hk => by cases hk) (by kernel_rfl) (door_met os _))) ?_
  intro W base args ds gs before hval hW _ hcond _ hL hsh _
  refine law_contract (C := Tryz.checked) (T := plainTs) (tb := 4) (s := Rows.journalTellsSpec) plainTs_ok plainTs_lt ?_ kids full rfl ?_ ?_ Tryz.underlying4 ?_ W base args ds gs before hval hW (glob_of hL hsh)
  · rw [Tryz.params3]; decide
  · intro ds hds
    rw [Tryz.params3] at hds
    match ds, hds with
    | [a0, a1, a2, a3], _ => rfl
  · kernel_rfl
  · intro xs hxs
    rw [Tryz.params3] at hxs
    exact spec3 xs hxs
theorem JournalTells_row : Rows.JournalTellsSaid :=
  OpenClaim.holds_of_cond 3 Tryz.f3 rfl rfl rfl rfl rfl rfl rfl ⟨rfl, rfl, rfl, rfl, rfl⟩ rfl rfl rfl rfl rfl (by kernel_rfl) Tryz.func3 (by kernel_rfl)
    (of_decide_eq_true (by kernel_rfl)) (by unfold Func.isWrapper; first | (rw [if_pos (by decide +kernel)]; kernel_rfl) | (rw [if_neg (by decide +kernel)]; exact ⟨rfl, rfl⟩))
    (fun os started H enc _ F => by rw [OpenClaim.pre_eq_preRow]; exact lifted3 os started H enc F)
theorem JournalTells_holds : Rows.JournalTellsCardSaid :=
  Claim7.holds_tied_plain_at .later [] _ _ _ _ JournalTells_row (fun _ h => by cases h) (by kernel_rfl) (fun _ h => by cases h) journalTells_row_tie rfl ⟨rfl, rfl⟩ (by kernel_rfl) rfl
    (fun f fn hf hfn => by
      obtain rfl : f = 3 := Option.some.inj ((show Tryz.prog.funcNamed "allonge/allongelaw08.JournalTells" = some 3 by kernel_rfl).symm.trans hf) |>.symm
      obtain rfl : fn = Tryz.f3 := (Option.some.inj (Tryz.func3.symm.trans hfn)).symm
      exact ⟨by kernel_rfl, fun j t ht => by
        rw [Tryz.params3] at ht
        have hm : t ∈ [3, 4, 22, 3] := by simpa using Array.mem_of_getElem? ht
        have hall : ([3, 4, 22, 3].all fun u => !Tryz.prog.wantsStandIn u) = true := by kernel_rfl
        exact (show Tryz.prog.wantsStandIn t = false by simpa using List.all_eq_true.1 hall t hm)⟩)
    (by kernel_rfl)
end Go.Proofs.YtdgcoipbcloieaaGreatDoor

