/- A part of the proof; the last text states what is proved. -/
import Derived.Test.YtdanjbnklaaehaaDoorP5
import Derived.Test.YtdanjbnklaaehaaDoorRows
import Derived.Test.YtdanjbnklaaehaaDoorCards
import Derived.Test.YtdanjbnklaaehaaDoorTie
import Derived.ProofKit
import Derived.DataShut
import Derived.LaidMore
import Derived.Lib.LaidTab
import Derived.OpenShut
import Derived.SevenTiedAt
set_option linter.unusedVariables false
set_option linter.unusedSimpArgs false
set_option maxRecDepth 100000
set_option maxHeartbeats 4000000
namespace Go.Abs
open Go.Proofs
structure UseOk (o : Order) (q : Int) (k : Nat) : Prop where
  q0 : ¬ (q < 0 ∨ q ≥ 22)
  hk : k < o.rules.length
  rx : rix o.rules q 0 = k
  ck : (checkT o.rules[k].term).2 = 0
  ty : (checkT o.rules[k].term).1 = qtype q
  ask : o.rules[k].ask = q
theorem usable_ok {o : Order} {q : Int} (h : usable o q = 0) : ∃ k, UseOk o q k := by
  unfold usable at h
  split at h
  · cases h
  rename_i hq
  split at h
  · cases h
  rename_i hr
  obtain ⟨k, hk, h1, h2, _⟩ := rix_at o.rules q 0 (by omega) (by omega)
  rw [Int.zero_add] at h1
  rw [ruleT_at hk h1] at h
  split at h
  · cases h
  rename_i hc
  simp only [not_or, ne_eq, Decidable.not_not] at hc
  exact ⟨k, hq, hk, h1, hc.1, hc.2, h2⟩
theorem UseOk.usable {o : Order} {q : Int} {k : Nat} (h : UseOk o q k) : usable o q = 0 := by
  rw [Abs.usable, if_neg h.q0, if_neg (by rw [h.rx]; omega), ruleT_at h.hk h.rx, if_neg (by simp [h.ck, h.ty])]
def clampD (n : Int) : Int := if n < 0 then 0 else if n > 20000 then 20000 else n
theorem clamp_eq (n : Int) : (if 20000 < if 0 > n then 0 else n then 20000 else if 0 > n then 0 else n) = clampD n := by
  unfold clampD
  repeat' split
  all_goals omega
def clampC (q : Int) (c : Cell) : Cell := if qtype q = 0 ∧ c.known = true then ⟨true, clampD c.n⟩ else c
def answerC (o : Order) (q : Int) (cells : List Cell) : Cell := if usable o q = 0 then clampC q (eval (ruleT o q) cells) else ⟨false, 0⟩
def answerV (o : Order) (q : Int) (cells : List Cell) : V := .tup [.agg (encCell (answerC o q cells)), .int .i64 (usable o q)]
theorem answer_no {o : Order} {q : Int} {cells : List Cell} (h : usable o q ≠ 0) : answerC o q cells = ⟨false, 0⟩ := if_neg h
theorem answer_yes {o : Order} {q : Int} {cells : List Cell} {k : Nat} (h : UseOk o q k) : answerC o q cells = clampC q (eval (o.rules[k]'h.hk).term cells) := by
  rw [answerC, if_pos h.usable, ruleT_at h.hk h.rx]
theorem UseOk.eval {o : Order} {q : Int} {k : Nat} (h : UseOk o q k) (cells : List Cell) : evalT (o.rules[k]'h.hk).term cells = Abs.eval (o.rules[k]'h.hk).term cells := by rw [evalT, if_neg (by simp [h.ck])]
theorem UseOk.wt {o : Order} {q : Int} {k : Nat} (h : UseOk o q k) : WT (o.rules[k]'h.hk).term (qtype q) := by
  obtain ⟨g1, g2, _⟩ := sz_of_check h.ck
  have := wt_of _ g1
  rw [← g2, h.ty] at this
  exact this
theorem qtype_01 (q : Int) : qtype q = 0 ∨ qtype q = 1 := by unfold qtype; split <;> simp
theorem o9 (o : Order) (q : Int) (cells : List Cell) : Spec Tryd.prog 9 [.agg (encOrder o), .int .i64 q, lst 2 (cells.map encCell)] (fun r => r = answerV o q cells) := by
  refine Spec.of_awlS hf9 okf9 (by simp) fun S hS => ?_
  simp only [Qs, bne_iff_ne, ne_eq, Nat.reduceAdd, Nat.reduceEqDiff, Nat.reduceBEq, List.length_map, uu f9.eq_1, id @f9r18.eq_1, uu f9b19.eq_1, id @f9r20.eq_1, uu f9b21.eq_1]
  have c25 := o25 o q
  by_cases hu : usable o q = 0
  · obtain ⟨k, ok⟩ := usable_ok hu
    rw [findV_yes ok.hk ok.rx hu] at c25
    rw [answerV, answer_yes ok, hu] at hS
    refine call_r c25 ?_
    simp only [Qs, if_true, bne_iff_ne, ne_eq, List.append_nil, Nat.reduceAdd, Nat.reduceMul, Nat.reduceEqDiff, Nat.reduceBEq, List.length_map, Int.reduceBNe, id @f9r10.eq_1, uu f9b11.eq_1, uu f9b14.eq_1, id @f9r15.eq_1, uu f9b16.eq_1, uu f9b17.eq_1]
    have hk := ok.hk
    have c37 := s37 o.rules[k].term cells
    rw [ok.eval] at c37
    obtain ⟨ek, en, he⟩ : ∃ a b, eval o.rules[k].term cells = Cell.mk a b := ⟨_, _, rfl⟩
    rw [he] at c37 hS
    refine call_r c37 ?_
    simp only [encCV, encCell, Qs, bne_iff_ne, ne_eq, List.append_nil, Nat.reduceAdd, Nat.reduceMul, Nat.reduceEqDiff, Nat.reduceBEq, id @f9r7.eq_1, uu f9b8.eq_1, uu f9b9.eq_1]
    have c13 := o13 q
    rw [typeQ_ok ok.q0] at c13
    refine call_s c13 ?_
    rcases qtype_01 q with hq | hq
    · cases ek
      · simp only [hq, Qs, if_true, if_false, BEq.rfl, List.append_nil, List.nodup_nil, Nat.reduceAdd, Nat.reduceLeDiff, Nat.reduceLT, Nat.reduceBEq, id @f9r1.eq_1, uu f9b2.eq_1, id @f9r3.eq_1, uu f9b4.eq_1, id @f9r5.eq_1, uu f9b6.eq_1]
        rw [clampC, if_neg (by simp)] at hS
        exact hS
      · rw [clampC, if_pos ⟨hq, rfl⟩] at hS
        simp only [hq, Qs, q_exL_eq_34, q_vInts_eq_1, q_vInts_eq_2, q_foldV_eq_1, q_vMinmax_eq_1, q_minmaxI_eq_1, if_true, if_false, BEq.rfl, List.append_nil, List.nodup_nil, Nat.reduceAdd, Nat.reduceLeDiff, Nat.reduceLT, Nat.reduceBEq, id @f9r1.eq_1, uu f9b2.eq_1, id @f9r3.eq_1, uu f9b4.eq_1, id @f9r5.eq_1, uu f9b6.eq_1]
        refine fin hS ?_
        simp only [encCell, clamp_eq]
    · simp only [hq, Qs, if_true, List.append_nil, List.nodup_nil, Nat.reduceAdd, Nat.reduceLT, Nat.reduceBEq, Int.reduceBEq, id @f9r1.eq_1, uu f9b2.eq_1, id @f9r3.eq_1, uu f9b4.eq_1, id @f9r5.eq_1, uu f9b6.eq_1]
      rw [clampC, if_neg (by simp [hq])] at hS
      exact hS
  · rw [findV_no rfl hu] at c25
    rw [answerV, answer_no hu] at hS
    refine call_r c25 ?_
    simp only [hu, Qs, if_true, forall_const, bne_iff_ne, ne_eq, List.append_nil, List.nodup_nil, Nat.reduceAdd, Nat.reduceMul, Nat.reduceEqDiff, Nat.reduceLT, Nat.reduceBEq, id @f9r10.eq_1, uu f9b11.eq_1, id @f9r12.eq_1, uu f9b13.eq_1, uu f9b14.eq_1, id @f9r15.eq_1, uu f9b16.eq_1, uu f9b17.eq_1]
    exact hS
theorem o10 (o : Order) (q : Int) (cells : List Cell) : Spec Tryd.prog 10 [.agg (encOrder o), .int .i64 q, lst 2 (cells.map encCell)] (fun r => r = answerV o q cells) := by
  refine Spec.of_awlS hf10 okf10 (by simp) fun S hS => ?_
  simp only [Qs, bne_iff_ne, ne_eq, Nat.reduceAdd, Nat.reduceEqDiff, Nat.reduceBEq, List.length_map, uu f10.eq_1, id @f10r24.eq_1, uu f10b25.eq_1, id @f10r26.eq_1, uu f10b27.eq_1]
  refine call_s (o27 o q) ?_
  by_cases hu : usable o q = 0
  · obtain ⟨k, ok⟩ := usable_ok hu
    have hk := ok.hk
    rw [answerV, answer_yes ok, hu] at hS
    have c21 := o21 o q
    rw [ok.rx] at c21
    have c1 : (0 : Int) ≤ k := by omega
    have c2 : (k : Int) < o.rules.length := by omega
    have c38 := s38 o.rules[k].term cells
    rw [ok.eval] at c38
    obtain ⟨ek, en, he⟩ : ∃ a b, eval o.rules[k].term cells = Cell.mk a b := ⟨_, _, rfl⟩
    rw [he] at c38 hS
    simp only [hu, Qs, if_true, bne_iff_ne, ne_eq, Nat.reduceAdd, Nat.reduceEqDiff, Nat.reduceBEq, List.length_map, Int.reduceBNe, id @f10r16o0.eq_1, id @f10r16o1.eq_1, id @f10r16o2.eq_1, id @f10r16o3.eq_1, id @f10r16o4.eq_1, id @f10r16o5.eq_1, id @f10r16o6.eq_1, id @f10r16o7.eq_1, id @f10r16o8.eq_1, id @f10r16o9.eq_1, id @f10r16o10.eq_1, id @f10r16o11.eq_1, utf10r16, uu f10b17.eq_1, uu f10b20.eq_1, id @f10r21.eq_1, uu f10b22.eq_1, uu f10b23.eq_1]
    refine callQ_s c21 ?_
    simp only [c1, c2, map_at hk, List.length_map, Qs, if_false, Nat.reduceAdd, Nat.reduceEqDiff, Nat.reduceBEq, List.length_map, g_rule1]
    refine callQ_l c38 ?_
    cases ek
    · simp only [encCV, encCell, Qs, if_true, if_false, List.append_nil, List.nodup_nil, Nat.reduceAdd, Nat.reduceLeDiff, Nat.reduceLT, Nat.reduceBEq, id @f10r1.eq_1, uu f10b2.eq_1, uu f10b12.eq_1, id @f10r13.eq_1, uu f10b14.eq_1, uu f10b15.eq_1]
      rw [clampC, if_neg (by simp)] at hS
      exact hS
    simp only [encCV, encCell, Qs, if_false, List.append_nil, Nat.reduceAdd, Nat.reduceLeDiff, Nat.reduceBEq, id @f10r13.eq_1, uu f10b14.eq_1, uu f10b15.eq_1]
    refine call_s (o29 q) ?_
    have hr : 0 ≤ q ∧ q ≤ 21 := by have := ok.q0; omega
    rcases qtype_01 q with hq | hq
    · rw [clampC, if_pos ⟨hq, rfl⟩] at hS
      have hn : ¬ (qtype q = 1 ∧ 0 ≤ q ∧ q ≤ 21) := fun x => by rw [hq] at x; cases x.1
      simp only [clampD] at hS
      by_cases h1 : en < 0
      · rw [if_pos h1] at hS
        simp only [hn, h1, Qs, if_true, if_false, List.append_nil, List.nodup_nil, Nat.reduceAdd, Nat.reduceLT, Nat.reduceBEq, Int.reduceGT, id @f10r1.eq_1, uu f10b2.eq_1, id @f10r3.eq_1, uu f10b4.eq_1, id @f10r5.eq_1, uu f10b6.eq_1, id @f10r7.eq_1, uu f10b8.eq_1, id @f10r9.eq_1, uu f10b10.eq_1, uu f10b11.eq_1, uu f10b12.eq_1]
        exact hS
      · rw [if_neg h1] at hS
        by_cases h2 : en > 20000
        · rw [if_pos h2] at hS
          simp only [hn, h1, h2, Qs, if_true, if_false, List.append_nil, List.nodup_nil, Nat.reduceAdd, Nat.reduceLT, Nat.reduceBEq, id @f10r1.eq_1, uu f10b2.eq_1, id @f10r3.eq_1, uu f10b4.eq_1, id @f10r5.eq_1, uu f10b6.eq_1, id @f10r7.eq_1, uu f10b8.eq_1, id @f10r9.eq_1, uu f10b10.eq_1, uu f10b11.eq_1, uu f10b12.eq_1]
          exact hS
        · rw [if_neg h2] at hS
          simp only [hn, h1, h2, Qs, if_true, if_false, List.append_nil, List.nodup_nil, Nat.reduceAdd, Nat.reduceLT, Nat.reduceBEq, id @f10r1.eq_1, uu f10b2.eq_1, id @f10r3.eq_1, uu f10b4.eq_1, id @f10r5.eq_1, uu f10b6.eq_1, id @f10r7.eq_1, uu f10b8.eq_1, id @f10r9.eq_1, uu f10b10.eq_1, uu f10b11.eq_1, uu f10b12.eq_1]
          exact hS
    · have hn : (qtype q = 1 ∧ 0 ≤ q ∧ q ≤ 21) := ⟨hq, hr⟩
      simp only [hn, Qs, if_true, List.append_nil, List.nodup_nil, Nat.reduceAdd, Nat.reduceLT, Nat.reduceBEq, id @f10r1.eq_1, uu f10b2.eq_1, uu f10b12.eq_1]
      rw [clampC, if_neg (by simp [hq])] at hS
      exact hS
  · rw [answerV, answer_no hu] at hS
    simp only [hu, Qs, if_true, forall_const, bne_iff_ne, ne_eq, List.append_nil, List.nodup_nil, Nat.reduceAdd, Nat.reduceEqDiff, Nat.reduceLT, Nat.reduceBEq, List.length_map, id @f10r16o0.eq_1, id @f10r16o1.eq_1, id @f10r16o2.eq_1, id @f10r16o3.eq_1, id @f10r16o4.eq_1, id @f10r16o5.eq_1, id @f10r16o6.eq_1, id @f10r16o7.eq_1, id @f10r16o8.eq_1, id @f10r16o9.eq_1, id @f10r16o10.eq_1, id @f10r16o11.eq_1, utf10r16, uu f10b17.eq_1, id @f10r18.eq_1, uu f10b19.eq_1, uu f10b20.eq_1, id @f10r21.eq_1, uu f10b22.eq_1, uu f10b23.eq_1]
    exact hS
theorem fn_lst (l : List Int) : (V.k (.c (lstC 1 (ints l)))).fz.nrm = lst 1 (ints l) := by simp [V.fz, Abs.K.fz, V.nrm, Abs.K.nrm, norm_lst]
theorem fn_new (l : List Int) : (V.k (.newl 3 1 none (ints l))).fz.nrm = lst 1 (ints l) := by simp [V.fz, Abs.K.fz, V.nrm, Abs.K.nrm, norm_list]
def needsO (o : Order) (q : Int) (cells : List Cell) : List Int := if usable o q = 0 then reachT (ruleT o q) cells else []
def usesQ (o : Order) (q : Int) : List Int := if usable o q = 0 then varsT (ruleT o q) else []
theorem o16 (o : Order) (q : Int) (cells : List Cell) : Spec Tryd.prog 16 [.agg (encOrder o), .int .i64 q, lst 2 (cells.map encCell)] (fun r => r = lst 1 (ints (needsO o q cells))) := by
  refine Spec.of_awlP hf16 okf16 (by simp) fun S hS => ?_
  simp only [Qs, bne_iff_ne, ne_eq, Nat.reduceAdd, Nat.reduceEqDiff, Nat.reduceBEq, List.length_map, uu f16.eq_1, id @f16r9.eq_1, uu f16b10.eq_1, id @f16r11.eq_1, uu f16b12.eq_1]
  have c25 := o25 o q
  by_cases hu : usable o q = 0
  · obtain ⟨k, ok⟩ := usable_ok hu
    have hk := ok.hk
    rw [findV_yes ok.hk ok.rx hu] at c25
    rw [needsO, if_pos hu, ruleT_at ok.hk ok.rx] at hS
    refine call_r c25 ?_
    simp only [Qs, if_true, bne_iff_ne, ne_eq, List.append_nil, Nat.reduceAdd, Nat.reduceMul, Nat.reduceEqDiff, Nat.reduceBEq, List.length_map, Int.reduceBNe, id @f16r1.eq_1, uu f16b2.eq_1, uu f16b5.eq_1, id @f16r6.eq_1, uu f16b7.eq_1, uu f16b8.eq_1]
    refine call_r (s39 o.rules[k].term cells) ?_
    simp only [Qs, q_regN_eq_1, if_true, List.nodup_nil]
    exact hS _ (fn_lst _)
  · rw [findV_no rfl hu] at c25
    rw [needsO, if_neg hu] at hS
    refine call_r c25 ?_
    simp only [hu, Qs, if_true, forall_const, bne_iff_ne, ne_eq, BEq.rfl, List.append_nil, List.nodup_nil, List.nodup_cons, Nat.reduceAdd, Nat.reduceMul, Nat.reduceEqDiff, Nat.reduceBEq, List.not_mem_nil, id @f16r1.eq_1, uu f16b2.eq_1, id @f16r3.eq_1, uu f16b4.eq_1, uu f16b5.eq_1, id @f16r6.eq_1, uu f16b7.eq_1, uu f16b8.eq_1]
    exact hS _ rfl
theorem o17 (o : Order) (q : Int) (cells : List Cell) : Spec Tryd.prog 17 [.agg (encOrder o), .int .i64 q, lst 2 (cells.map encCell)] (fun r => r = lst 1 (ints (needsO o q cells))) := by
  refine Spec.of_awlP hf17 okf17 (by simp) fun S hS => ?_
  simp only [Qs, bne_iff_ne, ne_eq, Nat.reduceAdd, Nat.reduceEqDiff, Nat.reduceBEq, List.length_map, uu f17.eq_1, id @f17r6.eq_1, uu f17b7.eq_1, uu f17b8.eq_1, id @f17r9.eq_1, uu f17b10.eq_1]
  refine call_s (o27 o q) ?_
  by_cases hu : usable o q = 0
  · obtain ⟨k, ok⟩ := usable_ok hu
    have hk := ok.hk
    rw [needsO, if_pos hu, ruleT_at ok.hk ok.rx] at hS
    have c21 := o21 o q
    rw [ok.rx] at c21
    have c1 : (0 : Int) ≤ k := by omega
    have c2 : (k : Int) < o.rules.length := by omega
    simp only [hu, Qs, if_true, Nat.reduceAdd, Nat.reduceBEq, List.length_map, Int.reduceBNe, id @f17r1.eq_1, uu f17b2.eq_1, uu f17b5.eq_1]
    refine callQ_s c21 ?_
    simp only [c1, c2, map_at hk, List.length_map, Qs, if_false, Nat.reduceAdd, Nat.reduceEqDiff, Nat.reduceBEq, List.length_map, g_rule1]
    refine callQ_l (s40 o.rules[k].term cells) ?_
    simp only [Qs, List.nodup_nil]
    exact hS _ (fn_lst _)
  · rw [needsO, if_neg hu] at hS
    simp only [hu, Qs, if_true, forall_const, bne_iff_ne, ne_eq, BEq.rfl, List.nodup_nil, List.nodup_cons, Nat.reduceAdd, Nat.reduceEqDiff, Nat.reduceBEq, List.length_map, List.not_mem_nil, id @f17r1.eq_1, uu f17b2.eq_1, id @f17r3.eq_1, uu f17b4.eq_1, uu f17b5.eq_1]
    exact hS _ rfl
theorem o18 (o : Order) (q : Int) : Spec Tryd.prog 18 [.agg (encOrder o), .int .i64 q] (fun r => r = lst 1 (ints (usesQ o q))) := by
  refine Spec.of_awlP hf18 okf18 (by simp) fun S hS => ?_
  simp only [Qs, bne_iff_ne, ne_eq, Nat.reduceAdd, Nat.reduceEqDiff, Nat.reduceBEq, List.length_map, uu f18.eq_1, id @f18r9.eq_1, uu f18b10.eq_1, id @f18r11.eq_1, uu f18b12.eq_1]
  have c25 := o25 o q
  by_cases hu : usable o q = 0
  · obtain ⟨k, ok⟩ := usable_ok hu
    have hk := ok.hk
    rw [findV_yes ok.hk ok.rx hu] at c25
    rw [usesQ, if_pos hu, ruleT_at ok.hk ok.rx] at hS
    refine call_r c25 ?_
    simp only [Qs, if_true, bne_iff_ne, ne_eq, List.append_nil, Nat.reduceAdd, Nat.reduceMul, Nat.reduceEqDiff, Nat.reduceBEq, List.length_map, Int.reduceBNe, id @f18r1.eq_1, uu f18b2.eq_1, uu f18b5.eq_1, id @f18r6.eq_1, uu f18b7.eq_1, uu f18b8.eq_1]
    refine call_l (s35' o.rules[k].term) ?_
    simp only [Qs, if_true, List.nodup_nil, List.nodup_cons, List.not_mem_nil]
    exact hS _ (fn_new _)
  · rw [findV_no rfl hu] at c25
    rw [usesQ, if_neg hu] at hS
    refine call_r c25 ?_
    simp only [hu, Qs, if_true, forall_const, bne_iff_ne, ne_eq, BEq.rfl, List.append_nil, List.nodup_nil, List.nodup_cons, Nat.reduceAdd, Nat.reduceMul, Nat.reduceEqDiff, Nat.reduceBEq, List.not_mem_nil, id @f18r1.eq_1, uu f18b2.eq_1, id @f18r3.eq_1, uu f18b4.eq_1, uu f18b5.eq_1, id @f18r6.eq_1, uu f18b7.eq_1, uu f18b8.eq_1]
    exact hS _ rfl
theorem o19 (o : Order) (q : Int) : Spec Tryd.prog 19 [.agg (encOrder o), .int .i64 q] (fun r => r = lst 1 (ints (usesQ o q))) := by
  refine Spec.of_awlP hf19 okf19 (by simp) fun S hS => ?_
  simp only [Qs, bne_iff_ne, ne_eq, Nat.reduceAdd, Nat.reduceEqDiff, Nat.reduceBEq, List.length_map, uu f19.eq_1, id @f19r6.eq_1, uu f19b7.eq_1, uu f19b8.eq_1, id @f19r9.eq_1, uu f19b10.eq_1]
  refine call_s (o27 o q) ?_
  by_cases hu : usable o q = 0
  · obtain ⟨k, ok⟩ := usable_ok hu
    have hk := ok.hk
    rw [usesQ, if_pos hu, ruleT_at ok.hk ok.rx] at hS
    have c21 := o21 o q
    rw [ok.rx] at c21
    have c1 : (0 : Int) ≤ k := by omega
    have c2 : (k : Int) < o.rules.length := by omega
    simp only [hu, Qs, if_true, Nat.reduceAdd, Nat.reduceBEq, List.length_map, Int.reduceBNe, id @f19r1.eq_1, uu f19b2.eq_1, uu f19b5.eq_1]
    refine callQ_s c21 ?_
    simp only [c1, c2, map_at hk, List.length_map, Qs, if_false, Nat.reduceAdd, Nat.reduceEqDiff, Nat.reduceBEq, List.length_map, g_rule1]
    refine callQ_l (s36 o.rules[k].term) ?_
    simp only [Qs, List.nodup_nil]
    exact hS _ (fn_lst _)
  · rw [usesQ, if_neg hu] at hS
    simp only [hu, Qs, if_true, forall_const, bne_iff_ne, ne_eq, BEq.rfl, List.nodup_nil, List.nodup_cons, Nat.reduceAdd, Nat.reduceEqDiff, Nat.reduceBEq, List.length_map, List.not_mem_nil, id @f19r1.eq_1, uu f19b2.eq_1, id @f19r3.eq_1, uu f19b4.eq_1, uu f19b5.eq_1]
    exact hS _ rfl
end Go.Abs


set_option maxRecDepth 100000
set_option maxHeartbeats 4000000
namespace Go.Abs
open Go.Proofs
def choiceF : List Choice → Int → Choice
  | [], q => ⟨q, 0, false⟩
  | c :: l, q => if c.ask = q then c else choiceF l q
theorem choiceF_drop {l : List Choice} {i : Nat} (h : i < l.length) (q : Int) : choiceF (l.drop i) q = if l[i].ask = q then l[i] else choiceF (l.drop (i + 1)) q := by
  rw [List.drop_eq_getElem_cons h, choiceF]
def choiceV (o : Order) (q : Int) : V := if q < 0 ∨ q ≥ 22 then .tup [.agg [.int .i64 0, .int .i64 0, .bool false], .int .i64 1] else .tup [.agg (encChoice (choiceF o.choices q)), .int .i64 0]
theorem o12 (o : Order) (q : Int) : Spec Tryd.prog 12 [.agg (encOrder o), .int .i64 q] (fun r => r = choiceV o q) := by
  refine Spec.of_len hf12 fun hlen => ?_
  have hl := (len_rules (o := o) List.mem_cons_self hlen).1
  clear hlen
  refine Spec.of_awlS hf12 okf12 (by simp) fun S hS => ?_
  simp only [Qs, bne_iff_ne, ne_eq, Nat.reduceAdd, Nat.reduceEqDiff, Nat.reduceBEq, uu f12.eq_1, id @f12r23.eq_1, uu f12b24.eq_1, uu f12b25.eq_1, id @f12r26.eq_1, uu f12b27.eq_1]
  refine call_s (o30 q) ?_
  by_cases hq : q < 0 ∨ q ≥ 22
  · have hn : ¬ (0 ≤ q ∧ q < 22) := by omega
    rw [choiceV, if_pos hq] at hS
    simp only [hn, Qs, if_true, List.append_nil, List.nodup_nil, Nat.reduceAdd, Nat.reduceLT, Nat.reduceBEq, id @f12r20.eq_1, uu f12b21.eq_1, uu f12b22.eq_1]
    exact hS
  have hy : (0 ≤ q ∧ q < 22) := by omega
  rw [choiceV, if_neg hq] at hS
  simp only [hy, Qs, uu f12b16.eq_1, id @f12r17.eq_1, uu f12b18.eq_1, uu f12b19.eq_1, uu f12b22.eq_1]
  rw [uf12l15]
  refine awl_loop (fun i : Nat => [(1, .int .i64 q), (2, .k (.ptr 2 0)), (4, .k (.ptr 4 0)), (6, .int .i64 i)]) (fun _ => [(2, .var 25 ((encOrder o).map .c)), (4, .var 35 [.c (.int .i64 0), .c (.int .i64 0), .c (.bool false)])])
    (fun i => i ≤ o.choices.length ∧ choiceF (o.choices.drop i) q = choiceF o.choices q) (fun i => o.choices.length - i) 0 rfl rfl ⟨Nat.zero_le _, rfl⟩ ?_
  rintro i ⟨hi, hj⟩
  by_cases hlt : i < o.choices.length
  · have c1 : (i : Int) < o.choices.length := by omega
    have c4 : IntKind.i64.wrap ((i : Int) + 1) = (i : Int) + 1 := wrap_in (by omega) (by omega)
    rw [choiceF_drop hlt] at hj
    simp only [c1, c4, map_at hlt, Qs, if_true, List.append_nil, List.nodup_nil, Nat.reduceAdd, Nat.reduceLeDiff, Nat.reduceLT, Nat.reduceBEq, normRows_Ch, encChoice_norm, List.length_map, encChoice_len, g_ch0, f_or2, id @f12r3.eq_1, id @f12r4.eq_1, uu f12b5.eq_1, uu f12b6.eq_1, id @f12r7.eq_1, uu f12b8.eq_1, uu f12b9.eq_1, uu f12b10.eq_1, uu f12b11.eq_1, id @f12r12.eq_1, uu f12b13.eq_1, uu f12b14.eq_1]
    refine ⟨fun h => ?_, fun h => ?_⟩
    · rw [if_pos h] at hj
      exact fin hS (by rw [← hj])
    · rw [if_neg h] at hj
      exact Next.intro (i + 1) rfl rfl ⟨by omega, hj⟩ (by omega)
  · have c1 : ¬ (i : Int) < o.choices.length := by omega
    simp only [c1, Qs, if_true, List.append_nil, List.nodup_nil, Nat.reduceAdd, Nat.reduceLeDiff, Nat.reduceLT, Nat.reduceBEq, normRows_Ch, List.length_map, f_or2, id @f12r1.eq_1, uu f12b2.eq_1, uu f12b11.eq_1, id @f12r12.eq_1, uu f12b13.eq_1, uu f12b14.eq_1]
    rw [List.drop_eq_nil_of_le (by omega), choiceF] at hj
    exact fin hS (by rw [← hj]; rfl)
theorem o11 (o : Order) (q : Int) : Spec Tryd.prog 11 [.agg (encOrder o), .int .i64 q] (fun r => r = choiceV o q) := by
  refine Spec.of_len hf11 fun hlen => ?_
  have hl := (len_rules (o := o) List.mem_cons_self hlen).1
  clear hlen
  refine Spec.of_awlS hf11 okf11 (by simp) fun S hS => ?_
  simp only [Qs, bne_iff_ne, ne_eq, Nat.reduceAdd, Nat.reduceEqDiff, Nat.reduceBEq, uu f11.eq_1, id @f11r27.eq_1, uu f11b28.eq_1, uu f11b29.eq_1, id @f11r30.eq_1, uu f11b31.eq_1]
  have c13 := o13 q
  by_cases hq : q < 0 ∨ q ≥ 22
  · rw [typeQ, if_pos hq] at c13
    rw [choiceV, if_pos hq] at hS
    refine call_s c13 ?_
    simp only [Qs, if_true, List.append_nil, List.nodup_nil, Nat.reduceAdd, Nat.reduceLT, Nat.reduceBEq, id @f11r22.eq_1, uu f11b23.eq_1, uu f11b24.eq_1, id @f11r25.eq_1, uu f11b26.eq_1]
    exact hS
  rw [typeQ_ok hq] at c13
  rw [choiceV, if_neg hq] at hS
  refine call_s c13 ?_
  simp only [Qs, Nat.reduceAdd, Nat.reduceLeDiff, Nat.reduceBEq, List.length_map, f_or2, uu f11b18.eq_1, id @f11r19.eq_1, uu f11b20.eq_1, uu f11b21.eq_1, uu f11b24.eq_1, id @f11r25.eq_1, uu f11b26.eq_1]
  rw [uf11l17]
  refine awl_loop (fun i : Nat => [(1, .int .i64 q), (4, .k (.ptr 4 0)), (19, lst 3 (o.choices.map encChoice)), (20, .int .i64 o.choices.length), (21, .int .i64 i)]) (fun _ => [(4, .var 35 [.c (.int .i64 0), .c (.int .i64 0), .c (.bool false)])])
    (fun i => i ≤ o.choices.length ∧ choiceF (o.choices.drop i) q = choiceF o.choices q) (fun i => o.choices.length - i) 0 rfl rfl ⟨Nat.zero_le _, rfl⟩ ?_
  rintro i ⟨hi, hj⟩
  by_cases hlt : i < o.choices.length
  · have c1 : (i : Int) < o.choices.length := by omega
    have c4 : IntKind.i64.wrap ((i : Int) + 1) = (i : Int) + 1 := wrap_in (by omega) (by omega)
    rw [choiceF_drop hlt] at hj
    simp only [c1, c4, map_at hlt, Qs, if_true, bne_iff_ne, ne_eq, List.append_nil, List.nodup_nil, Nat.reduceAdd, Nat.reduceEqDiff, Nat.reduceLeDiff, Nat.reduceLT, Nat.reduceBEq, normRows_Ch, encChoice_norm, List.length_map, encChoice_len, f_ch0, id @f11r3.eq_1, id @f11r4.eq_1, uu f11b5.eq_1, uu f11b6.eq_1, id @f11r7.eq_1, uu f11b8.eq_1, id @f11r9.eq_1, uu f11b10.eq_1, uu f11b11.eq_1, uu f11b12.eq_1, uu f11b13.eq_1, uu f11b14.eq_1, id @f11r15.eq_1, uu f11b16.eq_1]
    by_cases h : o.choices[i].ask = q
    · rw [if_pos h] at hj
      simp only [encChoice, h, Qs, forall_const, BEq.rfl]
      exact fin hS (by rw [← hj, encChoice, h])
    · rw [if_neg h] at hj
      simp only [encChoice, h, c4, Qs, forall_const]
      exact Next.intro (i + 1) rfl rfl ⟨by omega, hj⟩ (by omega)
  · have c1 : ¬ (i : Int) < o.choices.length := by omega
    simp only [c1, Qs, if_true, List.append_nil, List.nodup_nil, Nat.reduceAdd, Nat.reduceLeDiff, Nat.reduceLT, Nat.reduceBEq, normRows_Ch, id @f11r1.eq_1, uu f11b2.eq_1, uu f11b13.eq_1, uu f11b14.eq_1, id @f11r15.eq_1, uu f11b16.eq_1]
    rw [List.drop_eq_nil_of_le (by omega), choiceF] at hj
    exact fin hS (by rw [← hj]; rfl)
def few18 (o : Order) : Bool := if o.rules.length > 60 ∨ o.choices.length > 60 then false else fewR o.rules
theorem o8 (o : Order) : Spec Tryd.prog 8 [.agg (encOrder o)] (fun r => r = .bool (few18 o)) := by
  refine Spec.of_len hf8 fun hlen => ?_
  have hl := (len_rules (o := o) List.mem_cons_self hlen).2
  clear hlen
  refine Spec.of_awlS hf8 okf8 (by simp) fun S hS => ?_
  by_cases h1 : (o.rules.length : Int) > 60
  · simp only [h1, Qs, if_true, List.nodup_nil, Nat.reduceAdd, Nat.reduceBEq, List.length_map, uu f8.eq_1, id @f8r20.eq_1, uu f8b21.eq_1, uu f8b22.eq_1, id @f8r23.eq_1, uu f8b24.eq_1, uu f8b25.eq_1, id @f8r26.eq_1, uu f8b27.eq_1]
    exact fin hS (by rw [few18, if_pos (.inl (by omega))])
  by_cases h2 : (o.choices.length : Int) > 60
  · simp only [h1, h2, Qs, if_true, if_false, List.nodup_nil, Nat.reduceAdd, Nat.reduceLeDiff, Nat.reduceBEq, normRows_Ch, List.length_map, f_or2, uu f8.eq_1, id @f8r20.eq_1, uu f8b21.eq_1, uu f8b22.eq_1, id @f8r23.eq_1, uu f8b24.eq_1, uu f8b25.eq_1, id @f8r26.eq_1, uu f8b27.eq_1]
    exact fin hS (by rw [few18, if_pos (.inr (by omega))])
  rw [few18, if_neg (by omega)] at hS
  simp only [h1, h2, Qs, if_true, if_false, Nat.reduceAdd, Nat.reduceLeDiff, Nat.reduceBEq, List.length_map, f_or2, uu f8.eq_1, uu f8b16.eq_1, id @f8r17.eq_1, uu f8b18.eq_1, uu f8b19.eq_1, uu f8b22.eq_1, id @f8r23.eq_1, uu f8b24.eq_1, uu f8b25.eq_1, id @f8r26.eq_1, uu f8b27.eq_1]
  rw [uf8l15]
  refine awl_loop (fun i : Nat => [(1, .k (.ptr 1 0)), (3, .int .i64 i)]) (fun _ => [(1, .var 25 ((encOrder o).map .c))])
    (fun i => i ≤ o.rules.length ∧ fewR (o.rules.drop i) = fewR o.rules) (fun i => o.rules.length - i) 0 rfl rfl ⟨Nat.zero_le _, rfl⟩ ?_
  rintro i ⟨hi, hj⟩
  by_cases hlt : i < o.rules.length
  · have c1 : (i : Int) < o.rules.length := by omega
    have c4 : IntKind.i64.wrap ((i : Int) + 1) = (i : Int) + 1 := wrap_in (by omega) (by omega)
    rw [fewR_drop hlt] at hj
    simp only [c1, c4, map_at hlt, Qs, if_true, if_false, Nat.reduceAdd, Nat.reduceEqDiff, Nat.reduceBEq, List.length_map, g_rule1, id @f8r3.eq_1, id @f8r7.eq_1, uu f8b8.eq_1, uu f8b9.eq_1, uu f8b10.eq_1, uu f8b11.eq_1, id @f8r12.eq_1, uu f8b13.eq_1, uu f8b14.eq_1]
    refine call_s (s30 o.rules[i].term) ?_
    cases h : few o.rules[i].term
    · rw [if_pos h] at hj
      simp only [h, Qs, List.nodup_nil, id @f8r4.eq_1, uu f8b5.eq_1, uu f8b6.eq_1]
      exact fin hS (by rw [← hj])
    · rw [if_neg (by simp [h])] at hj
      simp only [h, c4, Qs, if_true, Nat.reduceBEq, uu f8b6.eq_1]
      exact Next.intro (i + 1) rfl rfl ⟨by omega, hj⟩ (by omega)
  · have c1 : ¬ (i : Int) < o.rules.length := by omega
    simp only [c1, Qs, if_true, List.nodup_nil, Nat.reduceAdd, Nat.reduceBEq, List.length_map, id @f8r1.eq_1, uu f8b2.eq_1, uu f8b11.eq_1, id @f8r12.eq_1, uu f8b13.eq_1, uu f8b14.eq_1]
    rw [List.drop_eq_nil_of_le (by omega), fewR] at hj
    exact fin hS (by rw [← hj])
def moreF (a b : List Cell) (i : Nat) : Cell := if i < a.length ∧ ((a.getD i zC).known = true ∨ b.length ≤ i) then a.getD i zC else b.getD i zC
def moreL (a b : List Cell) (n : Nat) : List Cell := (List.range n).map (moreF a b)
theorem moreL_succ (a b : List Cell) (n : Nat) : moreL a b (n + 1) = moreL a b n ++ [moreF a b n] := by simp [moreL, List.range_succ]
theorem moreL_len (a b : List Cell) (n : Nat) : (moreL a b n).length = n := by simp [moreL]
def nlN (n : Nat) : Option Bool := if n = 0 then some true else some false
theorem o20 (a b : List Cell) (ha : a.length ≤ 100) (hb : b.length ≤ 100) : Spec Tryd.prog 20 [lst 2 (a.map encCell), lst 2 (b.map encCell)] (fun r => r = .k (.newl 30 2 none ((moreL a b (max a.length b.length)).map encCell))) := by
  refine Spec.of_awlS hf20 okf20 (by simp) fun S hS => ?_
  simp only [Qs, bne_iff_ne, ne_eq, Nat.reduceAdd, Nat.reduceEqDiff, Nat.reduceBEq, uu f20.eq_1, uu f20b16.eq_1, id @f20r17.eq_1, uu f20b18.eq_1, uu f20b19.eq_1, id @f20r20.eq_1, uu f20b21.eq_1, id @f20r22.eq_1, uu f20b23.eq_1]
  rw [uf20l15]
  refine awl_loop (fun i : Nat => [(0, lst 2 (a.map encCell)), (1, lst 2 (b.map encCell)), (5, .k (.own 5)), (6, .int .i64 i)]) (fun i => [(5, .arr 30 2 (nlN i) ((moreL a b i).map encCell))])
    (fun i => i ≤ max a.length b.length) (fun i => max a.length b.length - i) 0 rfl rfl (Nat.zero_le _) ?_
  intro i hi
  have c4 : IntKind.i64.wrap ((i : Int) + 1) = (i : Int) + 1 := wrap_in (by omega) (by omega)
  have hsn := moreL_succ a b i
  have hln := moreL_len a b i
  have hap : nlApp (nlN i) [encCell (moreF a b i)] = nlN (i + 1) := rfl
  by_cases hia : i < a.length
  · have c1 : (i : Int) < a.length := by omega
    have hga : a.getD i zC = a[i] := by simp [hia]
    obtain ⟨xk, xn, hx⟩ : ∃ p n, a[i] = Cell.mk p n := ⟨_, _, rfl⟩
    rw [hx] at hga
    cases xk
    · by_cases hib : i < b.length
      · have d1 : (i : Int) < b.length := by omega
        have d2 : ¬ (i : Int) ≥ b.length := by omega
        have hmf : moreF a b i = b[i] := by rw [moreF, hga, if_neg (by simp; omega)]; simp [hib]
        rw [hmf] at hsn
        simp only [c1, c4, d1, d2, hx, map_at hia, map_at hib, encCell_len, encCell, List.length_map, Qs, q_V_noRef_eq_5, q_V_scrub_eq_4, if_true, if_false, forall_eq, bne_iff_ne, ne_eq, List.mem_cons, Nat.reduceAdd, Nat.reduceEqDiff, Nat.reduceLeDiff, Nat.reduceLT, Nat.reduceBEq, List.length_map, List.not_mem_nil, id @f20r3.eq_1, id @f20r4.eq_1, id @f20r5.eq_1, uu f20b6.eq_1, id @f20r7.eq_1, uu f20b8.eq_1, uu f20b9.eq_1, uu f20b10.eq_1, uu f20b11.eq_1, id @f20r12.eq_1, uu f20b13.eq_1, uu f20b14.eq_1]
        refine ⟨by simp [hln]; omega, by simp [hln]; omega, Next.intro (i + 1) rfl ?_ (by omega) (by omega)⟩
        rw [hsn, List.map_append]; rfl
      · have d1 : ¬ (i : Int) < b.length := by omega
        have d2 : (i : Int) ≥ b.length := by omega
        have hmf : moreF a b i = ⟨false, xn⟩ := by rw [moreF, hga, if_pos (by simp; omega)]
        rw [hmf] at hsn
        simp only [c1, c4, d1, d2, hx, map_at hia, encCell_len, encCell, List.length_map, Qs, q_V_noRef_eq_5, q_V_scrub_eq_4, if_true, if_false, forall_eq, bne_iff_ne, ne_eq, List.mem_cons, Nat.reduceAdd, Nat.reduceEqDiff, Nat.reduceLeDiff, Nat.reduceLT, Nat.reduceBEq, List.length_map, List.not_mem_nil, id @f20r3.eq_1, id @f20r4.eq_1, id @f20r5.eq_1, uu f20b6.eq_1, id @f20r7.eq_1, uu f20b8.eq_1, uu f20b9.eq_1, uu f20b10.eq_1, uu f20b11.eq_1, id @f20r12.eq_1, uu f20b13.eq_1, uu f20b14.eq_1]
        refine ⟨by simp [hln]; omega, by simp [hln]; omega, Next.intro (i + 1) rfl ?_ (by omega) (by omega)⟩
        rw [hsn, List.map_append]; rfl
    · have hmf : moreF a b i = ⟨true, xn⟩ := by rw [moreF, hga, if_pos (by simp; omega)]
      rw [hmf] at hsn
      simp only [c1, c4, hx, map_at hia, encCell_len, encCell, List.length_map, Qs, q_V_noRef_eq_5, q_V_scrub_eq_4, if_true, if_false, forall_eq, bne_iff_ne, ne_eq, List.mem_cons, Nat.reduceAdd, Nat.reduceEqDiff, Nat.reduceLeDiff, Nat.reduceLT, Nat.reduceBEq, List.length_map, List.not_mem_nil, id @f20r3.eq_1, id @f20r4.eq_1, id @f20r5.eq_1, uu f20b6.eq_1, id @f20r7.eq_1, uu f20b8.eq_1, uu f20b9.eq_1, uu f20b10.eq_1, uu f20b11.eq_1, id @f20r12.eq_1, uu f20b13.eq_1, uu f20b14.eq_1]
      refine ⟨by simp [hln]; omega, by simp [hln]; omega, Next.intro (i + 1) rfl ?_ (by omega) (by omega)⟩
      rw [hsn, List.map_append]; rfl
  · have c1 : ¬ (i : Int) < a.length := by omega
    by_cases hib : i < b.length
    · have d1 : (i : Int) < b.length := by omega
      have hmf : moreF a b i = b[i] := by rw [moreF, if_neg (by omega)]; simp [hib]
      rw [hmf] at hsn
      simp only [c1, c4, d1, map_at hib, encCell_len, encCell, List.length_map, Qs, q_V_noRef_eq_5, q_V_scrub_eq_4, if_true, if_false, forall_eq, bne_iff_ne, ne_eq, List.mem_cons, Nat.reduceAdd, Nat.reduceEqDiff, Nat.reduceLeDiff, Nat.reduceLT, Nat.reduceBEq, q_guardP_eq_3, List.length_map, List.not_mem_nil, id @f20r3.eq_1, id @f20r4.eq_1, id @f20r5.eq_1, uu f20b6.eq_1, id @f20r7.eq_1, uu f20b8.eq_1, uu f20b9.eq_1, uu f20b10.eq_1, uu f20b11.eq_1, id @f20r12.eq_1, uu f20b13.eq_1, uu f20b14.eq_1]
      refine ⟨by simp [hln]; omega, by simp [hln]; omega, Next.intro (i + 1) rfl ?_ (by omega) (by omega)⟩
      rw [hsn, List.map_append]; rfl
    · have d1 : ¬ (i : Int) < b.length := by omega
      have : i = max a.length b.length := by omega
      rw [← this] at hS
      simp only [c1, d1, List.length_map, Qs, if_true, if_false, List.nodup_nil, List.nodup_cons, Nat.reduceBEq, List.length_map, List.not_mem_nil, id @f20r1.eq_1, uu f20b2.eq_1, uu f20b11.eq_1, id @f20r12.eq_1, uu f20b13.eq_1, uu f20b14.eq_1]
      exact hS
end Go.Abs


set_option maxRecDepth 100000
set_option maxHeartbeats 4000000
namespace Go.Abs
open Go.Proofs
end Go.Abs


set_option maxRecDepth 100000
namespace Go.Abs
open Go.Proofs
theorem s22 (a b : List Int) : Spec Tryd.prog 15 [lst 1 (ints a), lst 1 (ints b)] (fun r => r = .bool (decide (a = b))) := by
  refine Spec.of_len hf15 fun hlen => ?_
  have hla : a.length ≤ 9223372036854775807 := by have := hlen _ (List.mem_cons_self) (lstC 1 (ints a)) (by simp [lst, V.topC]) _ _ _ rfl; simpa [ints] using this
  clear hlen
  refine Spec.of_awl hf15 okf15 (by simp) ?_
  simp only [lst, lstC, ints_len, Qs, q_vLen_eq_1, if_true, List.nodup_nil, Nat.reduceAdd, Nat.reduceBEq, uu f15.eq_1, uu f15b16.eq_1, id @f15r17.eq_1, uu f15b18.eq_1, uu f15b19.eq_1, id @f15r20.eq_1, uu f15b21.eq_1, uu f15b22.eq_1, id @f15r23.eq_1, uu f15b24.eq_1, uu f15b25.eq_1, id @f15r26.eq_1, uu f15b27.eq_1]
  refine ⟨fun h => ?_, fun h => ?_⟩
  · have : a ≠ b := by rintro rfl; exact h rfl
    simp [this]
  · rw [uf15l15]
    have h : a.length = b.length := by omega
    refine awl_loop (fun i : Nat => [(0, lst 1 (ints a)), (1, lst 1 (ints b)), (5, .int .i64 i)]) (fun _ => []) (fun i => i ≤ a.length ∧ ∀ j < i, a[j]? = b[j]?) (fun i => a.length - i) 0 rfl rfl ⟨Nat.zero_le _, by simp⟩ ?_
    rintro i ⟨hi, hj⟩
    by_cases hlt : i < a.length
    · have hlt2 : i < b.length := by omega
      have c1 : (i : Int) < a.length := by omega
      have c2 : (i : Int) < b.length := by omega
      have hw : IntKind.i64.wrap ((i : Int) + 1) = (i : Int) + 1 := wrap_in (by omega) (by omega)
      simp only [lst, lstC, ints_len, ints_isEmpty, ints_at hlt, ints_at hlt2, sz_of hlt, sz_of hlt2, c1, c2, hw, not_true_eq_false, Qs, q_exLQ_eq_12, q_vLen_eq_1, q_vIaddr_eq_1, if_true, List.nodup_nil, Nat.reduceBEq, id @f15r3.eq_1, id @f15r4.eq_1, uu f15b5.eq_1, uu f15b6.eq_1, id @f15r7.eq_1, uu f15b8.eq_1, uu f15b9.eq_1, uu f15b10.eq_1, uu f15b11.eq_1, id @f15r12.eq_1, uu f15b13.eq_1, uu f15b14.eq_1]
      refine ⟨fun hne => ?_, fun he => ?_⟩
      · have : a ≠ b := by rintro rfl; exact hne rfl
        simp [this]
      · refine Next.intro (i + 1) rfl rfl ⟨by omega, fun j hjl => ?_⟩ (by omega)
        by_cases hji : j = i
        · subst hji; simp [hlt, hlt2, he]
        · exact hj j (by omega)
    · have c1 : ¬ (i : Int) < a.length := by omega
      simp only [lst, lstC, ints_len, ints_isEmpty, c1, not_true_eq_false, not_false_eq_true, Qs, q_vLen_eq_1, if_true, List.nodup_nil, Nat.reduceBEq, id @f15r1.eq_1, uu f15b2.eq_1, uu f15b11.eq_1, id @f15r12.eq_1, uu f15b13.eq_1, uu f15b14.eq_1]
      have : a = b := by
        refine List.ext_getElem? fun j => ?_
        by_cases hjl : j < i
        · exact hj j hjl
        · rw [List.getElem?_eq_none (by omega), List.getElem?_eq_none (by omega)]
      simp [this]
end Go.Abs


set_option maxRecDepth 100000
set_option maxHeartbeats 4000000
namespace Go.Abs
open Go.Proofs
def oA : Order := ⟨[], false, [], [⟨0, .mk 2 7 []⟩, ⟨6, .mk 0 3 []⟩]⟩
def oB : Order := ⟨[], false, [], [⟨0, .mk 2 15 []⟩]⟩
def oC : Order := ⟨[], false, [], [⟨0, .mk 0 3 []⟩]⟩
theorem p1 : ordersO [oA, oC, oB] 0 = (1, 11) := by decide
theorem p2 : ordersO [oA, oB] 0 = (-1, 0) := by decide
theorem s22' (l : List Int) : Spec Tryd.prog 15 [lst 1 (ints l), lst 1 (ints l)] (fun r => r = .bool true) := by
  have := s22 l l
  simpa using this
end Go.Abs


set_option maxRecDepth 100000
set_option maxHeartbeats 4000000
namespace Go.Abs
open Go.Proofs
def exO : Order := ⟨[], false, [⟨6, 2, false⟩], [⟨2, .mk 4 0 [.mk 2 15 [], .mk 2 17 []]⟩, ⟨6, .mk 6 0 [.mk 2 10 [], .mk 0 0 [], .mk 0 30000 []]⟩]⟩
theorem o22 : Spec Tryd.prog 22 [] (fun r => r = .agg (encOrder exO)) := by
  refine Spec.of_awlP hf22 okf22 (by simp) fun S hS => ?_
  simp only [Qs, q_V_cells_eq_3, q_V_noRef_eq_3, q_C_norm_eq_6, q_C_normRows_eq_2, q_Option_map_none, q_List_set_cons_succ, q_List_isEmpty_cons, if_true, if_false, reduceCtorEq, forall_eq_or_imp, forall_eq, bne_iff_ne, ne_eq, List.append_nil, List.mem_cons, List.nodup_nil, Nat.reduceAdd, Nat.reduceEqDiff, Nat.reduceLeDiff, Nat.reduceLT, Nat.reduceBEq, Nat.zero_ne_one, List.not_mem_nil, z_V_k, z_V_agg, z_K_c, z_O_var, z_O_arr, z_frzT, z_frzO, q_awl_eq_14, z_agF1, z_agF2, z_V_agk, z_K_own_arr, z_K_ptr_arr, uu f22.eq_1, id @f22r1.eq_1, uu f22b2.eq_1, id @f22r3.eq_1, uu f22b4.eq_1, id @f22r5.eq_1, uu f22b6.eq_1, id @f22r7.eq_1, uu f22b8.eq_1, id @f22r9.eq_1, uu f22b10.eq_1, id @f22r11.eq_1, uu f22b12.eq_1, id @f22r13.eq_1, uu f22b14.eq_1]
  exact hS _ rfl
theorem o23 (k : Nat) (x : Int) (hk : k < 20) : Spec Tryd.prog 23 [.int .i64 k, .int .i64 x] (fun r => r = .k (.newl 30 2 none ((oneK k x).map encCell))) := by
  refine Spec.of_awlS hf23 okf23 (by simp) fun S hS => ?_
  have h1 : (0 : Int) ≤ k := by omega
  have h2 : (k : Int) < 20 := by omega
  simp only [h1, h2, Qs, q_exL_eq_18, q_stArrK_eq_1, q_storeK_eq_2, q_mkslK_eq_1, q_C_normRows_eq_2, if_true, bne_iff_ne, ne_eq, List.append_nil, List.nodup_nil, List.nodup_cons, Nat.reduceAdd, Nat.reduceEqDiff, Nat.reduceLeDiff, Nat.reduceBEq, Int.reduceLE, Int.reduceToNat, List.not_mem_nil, uu f23.eq_1, id @f23r1.eq_1, uu f23b2.eq_1, id @f23r3.eq_1, uu f23b4.eq_1, id @f23r5.eq_1, uu f23b6.eq_1, id @f23r7.eq_1, uu f23b8.eq_1]
  refine ⟨by decide, fin hS ?_⟩
  rw [show (List.map encCell (oneK k x)) = C.normRows (List.map encCell (oneK k x)) from (normRows_Ce _).symm, oneK, List.map_set]
  rfl
theorem e1 : answerV exO 2 (oneK 15 0) = .tup [.agg [.bool true, .int .i64 0], .int .i64 0] := by kernel_rfl
theorem e2 : answerV exO 2 (oneK 15 1) = .tup [.agg [.bool false, .int .i64 0], .int .i64 0] := by kernel_rfl
theorem e3 : answerV exO 6 (oneK 10 0) = .tup [.agg [.bool true, .int .i64 20000], .int .i64 0] := by kernel_rfl
theorem e4 : answerV exO 6 (oneK 10 1) = .tup [.agg [.bool true, .int .i64 0], .int .i64 0] := by kernel_rfl
theorem e5 : answerV exO 0 [] = .tup [.agg [.bool false, .int .i64 0], .int .i64 4] := by kernel_rfl
theorem e6 : answerV exO 22 [] = .tup [.agg [.bool false, .int .i64 0], .int .i64 1] := by kernel_rfl
theorem e7 : choiceV exO 6 = .tup [.agg [.int .i64 6, .int .i64 2, .bool false], .int .i64 0] := by kernel_rfl
theorem e8 : choiceV exO 2 = .tup [.agg [.int .i64 2, .int .i64 0, .bool false], .int .i64 0] := by kernel_rfl
theorem e9 : needsO exO 2 (oneK 15 1) = [17] := by kernel_rfl
theorem e10 : usesQ exO 6 = [10] := by kernel_rfl
theorem e11 : needsO exO 2 (oneK 15 0) = [] := by kernel_rfl
theorem o7 : Spec Tryd.prog 7 [] (fun r => r = .bool true) := by
  have c1 := o9 exO 2 (oneK 15 0)
  rw [e1] at c1
  have c2 := o9 exO 2 (oneK 15 1)
  rw [e2] at c2
  have c3 := o9 exO 6 (oneK 10 0)
  rw [e3] at c3
  have c4 := o9 exO 6 (oneK 10 1)
  rw [e4] at c4
  have c5 := o9 exO 0 []
  rw [e5] at c5
  have c6 := o9 exO 22 []
  rw [e6] at c6
  have c7 := o11 exO 6
  rw [e7] at c7
  have c8 := o11 exO 2
  rw [e8] at c8
  have c9 := o16 exO 2 (oneK 15 1)
  rw [e9] at c9
  have c10 := o18 exO 6
  rw [e10] at c10
  have c11 := o16 exO 2 (oneK 15 0)
  rw [e11] at c11
  refine Spec.of_awlS hf7 okf7 (by simp) fun S hS => ?_
  simp only [Qs, uu f7.eq_1, id @f7r37.eq_1, uu f7b38.eq_1, id @f7r39.eq_1, uu f7b40.eq_1]
  refine call_r o22 ?_ (ha := by rfl)
  simp only [Qs, bne_iff_ne, ne_eq, List.append_nil, Nat.reduceAdd, Nat.reduceMul, Nat.reduceEqDiff, Nat.reduceBEq, List.length_map, id @f7r35o0.eq_1, id @f7r35o1.eq_1, id @f7r35o2.eq_1, id @f7r35o3.eq_1, id @f7r35o4.eq_1, id @f7r35o5.eq_1, id @f7r35o6.eq_1, id @f7r35o7.eq_1, id @f7r35o8.eq_1, utf7r35, uu f7b36.eq_1]
  refine callQ_l (o23 15 0 (by decide)) ?_ (ha := by rfl)
  simp only [Qs, Nat.reduceBEq]
  refine callQ_l c1 ?_ (ha := by rfl)
  simp only [Qs, q_exLQ_eq_28, q_V_fz_eq_4, q_V_fzL_eq_1, q_V_fzL_eq_2, bne_iff_ne, ne_eq, List.append_nil, Nat.reduceAdd, Nat.reduceEqDiff, Nat.reduceBEq, List.length_map, id @f7r33o0.eq_1, id @f7r33o1.eq_1, id @f7r33o2.eq_1, id @f7r33o3.eq_1, id @f7r33o4.eq_1, id @f7r33o5.eq_1, id @f7r33o6.eq_1, id @f7r33o7.eq_1, id @f7r33o8.eq_1, utf7r33, uu f7b34.eq_1]
  refine callQ_l (o23 15 1 (by decide)) ?_ (ha := by rfl)
  simp only [Qs, Nat.reduceBEq]
  refine callQ_l c2 ?_ (ha := by rfl)
  simp only [Qs, q_exLQ_eq_28, q_V_fz_eq_4, q_V_fzL_eq_1, q_V_fzL_eq_2, bne_iff_ne, ne_eq, List.append_nil, Nat.reduceAdd, Nat.reduceEqDiff, Nat.reduceBEq, List.length_map, id @f7r31o0.eq_1, id @f7r31o1.eq_1, id @f7r31o2.eq_1, id @f7r31o3.eq_1, id @f7r31o4.eq_1, id @f7r31o5.eq_1, id @f7r31o6.eq_1, id @f7r31o7.eq_1, id @f7r31o8.eq_1, utf7r31, uu f7b32.eq_1]
  refine callQ_l (o23 10 0 (by decide)) ?_ (ha := by rfl)
  simp only [Qs, Nat.reduceBEq]
  refine callQ_l c3 ?_ (ha := by rfl)
  simp only [Qs, q_exLQ_eq_28, q_V_fz_eq_4, q_V_fzL_eq_1, q_V_fzL_eq_2, bne_iff_ne, ne_eq, List.append_nil, Nat.reduceAdd, Nat.reduceEqDiff, Nat.reduceBEq, List.length_map, id @f7r29o0.eq_1, id @f7r29o1.eq_1, id @f7r29o2.eq_1, id @f7r29o3.eq_1, id @f7r29o4.eq_1, id @f7r29o5.eq_1, id @f7r29o6.eq_1, id @f7r29o7.eq_1, id @f7r29o8.eq_1, utf7r29, uu f7b30.eq_1]
  refine callQ_l (o23 10 1 (by decide)) ?_ (ha := by rfl)
  simp only [Qs, Nat.reduceBEq]
  refine callQ_l c4 ?_ (ha := by rfl)
  simp only [Qs, q_exLQ_eq_28, q_V_fz_eq_4, q_V_fzL_eq_1, q_V_fzL_eq_2, List.append_nil, Nat.reduceAdd, Nat.reduceBEq, List.length_map, id @f7r27.eq_1, uu f7b28.eq_1]
  refine call_r c5 ?_ (ha := by rfl)
  simp only [Qs, bne_iff_ne, ne_eq, List.append_nil, Nat.reduceAdd, Nat.reduceMul, Nat.reduceEqDiff, Nat.reduceBEq, List.length_map, id @f7r25.eq_1, uu f7b26.eq_1]
  refine call_r c6 ?_ (ha := by rfl)
  simp only [Qs, bne_iff_ne, ne_eq, List.append_nil, Nat.reduceAdd, Nat.reduceMul, Nat.reduceEqDiff, Nat.reduceBEq, List.length_map, id @f7r23.eq_1, uu f7b24.eq_1]
  refine call_r c7 ?_ (ha := by rfl)
  simp only [Qs, bne_iff_ne, ne_eq, List.append_nil, Nat.reduceAdd, Nat.reduceMul, Nat.reduceEqDiff, Nat.reduceBEq, List.length_map, id @f7r21.eq_1, uu f7b22.eq_1]
  refine call_r c8 ?_ (ha := by rfl)
  simp only [Qs, q_AOp_dst_eq_6, q_exL_eq_13, q_mapV_eq_1, q_eqRow_eq_1, q_eqRow_eq_2, q_eqC_eq_1, q_eqC_eq_2, if_true, if_false, bne_iff_ne, ne_eq, BEq.rfl, List.append_nil, Nat.reduceAdd, Nat.reduceMul, Nat.reduceEqDiff, Nat.reduceLeDiff, Nat.reduceBEq, List.length_map, Int.reduceBNe, Option.bind_some, id @f7r5.eq_1, uu f7b6.eq_1, uu f7b9.eq_1, id @f7r10.eq_1, uu f7b11.eq_1, uu f7b12.eq_1, uu f7b15.eq_1, id @f7r16.eq_1, uu f7b17.eq_1, uu f7b18.eq_1, id @f7r19.eq_1, uu f7b20.eq_1]
  refine callQ_l (o23 15 1 (by decide)) ?_ (ha := by rfl)
  simp only [Qs, Nat.reduceBEq]
  refine callQ_l c9 ?_ (ha := by rfl)
  simp only [Qs, Nat.reduceBEq, List.length_map, id @f7r3.eq_1, uu f7b4.eq_1]
  refine call_r c10 ?_ (ha := by rfl)
  simp only [Qs, q_regN_eq_1, Nat.reduceBEq, List.length_map, id @f7r1.eq_1, uu f7b2.eq_1]
  refine callQ_l (o23 15 0 (by decide)) ?_ (ha := by rfl)
  simp only [Qs, Nat.reduceBEq]
  refine callQ_l c11 ?_ (ha := by rfl)
  simp only [Qs, q_AOp_dst_eq_7, q_exLQ_eq_8, q_exLQ_eq_12, q_exLQ_eq_33, q_bsQ_eq_1, if_true, forall_eq, BEq.rfl, List.mem_cons, Nat.reduceLT, Nat.reduceBEq, List.not_mem_nil]
  refine callQ_s (s22' [17]) ?_ (ha := by rfl)
  simp only [Qs, q_AOp_dst_eq_7, q_exLQ_eq_8, q_bsQ_eq_1, if_true, forall_eq, List.mem_cons, Nat.reduceLT, Nat.reduceBEq, List.not_mem_nil]
  refine callQ_s (s22' [10]) ?_ (ha := by rfl)
  simp only [Qs, q_C_normRows_eq_2, q_List_isEmpty_cons, if_true, if_false, List.nodup_nil, Nat.reduceBEq]
  exact hS
end Go.Abs


set_option maxRecDepth 100000
set_option maxHeartbeats 4000000
namespace Go.Abs
open Go.Proofs
theorem choiceV_ex (o : Order) (q : Int) : ∃ a b c e, choiceV o q = .tup [.agg [.int .i64 a, .int .i64 b, .bool c], .int .i64 e] := by
  unfold choiceV
  split
  · exact ⟨_, _, _, _, rfl⟩
  · exact ⟨_, _, _, _, rfl⟩
theorem typeQ_ex (q : Int) : ∃ a b, typeQ q = .tup [.int .i64 a, .bool b] := by
  unfold typeQ
  split
  · exact ⟨_, _, rfl⟩
  · exact ⟨_, _, rfl⟩
theorem l3 (o : Order) (q : Int) (cells : List Cell) : Spec Tryd.prog 3 [.agg (encOrder o), .int .i64 q, lst 2 (cells.map encCell)] (fun r => r = .bool true) := by
  refine Spec.of_awlS hf3 okf3 (by simp) fun S hS => ?_
  simp only [Qs, Nat.reduceAdd, Nat.reduceBEq, uu f3.eq_1, id @f3r27.eq_1, uu f3b28.eq_1, id @f3r29.eq_1, uu f3b30.eq_1]
  refine call_s o7 ?_
  simp only [Qs, Nat.reduceBEq, List.length_map, id @f3r24.eq_1, uu f3b25.eq_1, uu f3b26.eq_1]
  refine call_s (o8 o) ?_
  cases h1 : few18 o
  · simp only [Qs, List.nodup_nil, Nat.reduceBEq, id @f3r21.eq_1, uu f3b22.eq_1, uu f3b23.eq_1]
    exact hS
  by_cases h2 : (cells.length : Int) > 100
  · simp only [h2, List.length_map, Qs, if_true, if_false, List.nodup_nil, Nat.reduceBEq, List.length_map, id @f3r21.eq_1, uu f3b22.eq_1, uu f3b23.eq_1]
    exact hS
  simp only [h2, List.length_map, Qs, if_true, if_false, Nat.reduceBEq, List.length_map, id @f3r19.eq_1, uu f3b20.eq_1, uu f3b23.eq_1]
  have c9 := o9 o q cells
  have c10 := o10 o q cells
  rw [answerV] at c9 c10
  obtain ⟨ek, en, he⟩ : ∃ k n, answerC o q cells = Cell.mk k n := ⟨_, _, rfl⟩
  rw [he] at c9 c10
  refine call_r c9 ?_
  simp only [encCell, Qs, bne_iff_ne, ne_eq, List.append_nil, Nat.reduceAdd, Nat.reduceMul, Nat.reduceEqDiff, Nat.reduceBEq, List.length_map, id @f3r17.eq_1, uu f3b18.eq_1]
  refine call_r c10 ?_
  simp only [encCell, Qs, bne_iff_ne, ne_eq, List.append_nil, Nat.reduceAdd, Nat.reduceMul, Nat.reduceEqDiff, Nat.reduceBEq, List.length_map, id @f3r15.eq_1, uu f3b16.eq_1]
  have c11 := o11 o q
  have c12 := o12 o q
  obtain ⟨a, b, c, e, hc⟩ := choiceV_ex o q
  rw [hc] at c11 c12
  refine call_r c11 ?_
  simp only [Qs, bne_iff_ne, ne_eq, List.append_nil, Nat.reduceAdd, Nat.reduceMul, Nat.reduceEqDiff, Nat.reduceBEq, List.length_map, id @f3r13.eq_1, uu f3b14.eq_1]
  refine call_r c12 ?_
  simp only [Qs, bne_iff_ne, ne_eq, List.append_nil, Nat.reduceAdd, Nat.reduceMul, Nat.reduceEqDiff, Nat.reduceBEq, id @f3r11.eq_1, uu f3b12.eq_1]
  have c13 := o13 q
  have c14 := o14 q
  obtain ⟨f, g, ht⟩ := typeQ_ex q
  rw [ht] at c13 c14
  refine call_s c13 ?_
  simp only [Qs, Nat.reduceBEq, id @f3r9.eq_1, uu f3b10.eq_1]
  refine call_s c14 ?_
  simp only [Qs, q_AOp_dst_eq_11, q_exL_eq_12, q_exL_eq_13, q_vBinB_eq_1, q_mapV_eq_1, q_eqRow_eq_1, q_eqRow_eq_2, q_eqC_eq_1, q_eqC_eq_2, if_true, if_false, forall_const, BEq.rfl, List.nodup_nil, Nat.reduceAdd, Nat.reduceBEq, List.length_map, Option.bind_some, id @f3r1.eq_1, uu f3b2.eq_1, id @f3r3.eq_1, uu f3b4.eq_1, uu f3b5.eq_1, id @f3r6.eq_1, uu f3b7.eq_1, uu f3b8.eq_1]
  refine callQ_l (o16 o q cells) ?_
  simp only [Qs, Nat.reduceBEq, List.length_map]
  refine callQ_l (o17 o q cells) ?_
  simp only [Qs, Nat.reduceBEq]
  refine callQ_s (s22' (needsO o q cells)) ?_
  simp only [Qs, if_true, Nat.reduceBEq, List.length_map]
  refine callQ_l (o18 o q) ?_
  simp only [Qs, Nat.reduceBEq, List.length_map]
  refine callQ_l (o19 o q) ?_
  simp only [Qs, Nat.reduceBEq]
  refine callQ_s (s22' (usesQ o q)) ?_
  simp only [Qs, if_true, List.nodup_nil, Nat.reduceBEq]
  exact hS
end Go.Abs


set_option maxRecDepth 100000
set_option maxHeartbeats 4000000
namespace Go.Abs
open Go.Proofs
theorem moreL_get (a b : List Cell) {n v : Nat} (h : v < n) : (moreL a b n).getD v zC = moreF a b v := by
  rw [List.getD_eq_getElem?_getD, moreL, List.getElem?_map, List.getElem?_range h]; rfl
theorem getD_known {a : List Cell} {v : Nat} (h : (a.getD v zC).known = true) : v < a.length := by
  apply Classical.byContradiction
  intro hn
  rw [List.getD_eq_getElem?_getD, List.getElem?_eq_none (by omega)] at h
  cases h
theorem below_more (a b : List Cell) : Below a (moreL a b (max a.length b.length)) := by
  intro v h0 _ hk
  rw [value_known h0] at hk
  have hl := getD_known hk
  have e : (moreL a b (max a.length b.length)).getD v.toNat zC = a.getD v.toNat zC := by rw [moreL_get a b (by omega), moreF, if_pos ⟨hl, .inl hk⟩]
  rw [valueC_eq h0, valueC_eq h0, e]
theorem clamp_known (q : Int) (c : Cell) : (clampC q c).known = c.known := by
  unfold clampC
  split
  · rename_i h; exact h.2.symm
  · rfl
theorem clamp_un {q : Int} {c : Cell} (h : c.known = false) : clampC q c = c := by
  rw [clampC, if_neg (by rw [h]; simp)]
theorem l4 (o : Order) (q : Int) (cells more : List Cell) : Spec Tryd.prog 4 [.agg (encOrder o), .int .i64 q, lst 2 (cells.map encCell), lst 2 (more.map encCell)] (fun r => r = .bool true) := by
  refine Spec.of_awlS hf4 okf4 (by simp) fun S hS => ?_
  simp only [Qs, Nat.reduceAdd, Nat.reduceBEq, uu f4.eq_1, id @f4r27.eq_1, uu f4b28.eq_1, id @f4r29.eq_1, uu f4b30.eq_1]
  refine call_s o7 ?_
  simp only [Qs, Nat.reduceBEq, List.length_map, id @f4r24.eq_1, uu f4b25.eq_1, uu f4b26.eq_1]
  refine call_s (o8 o) ?_
  cases h1 : few18 o
  · simp only [Qs, List.nodup_nil, Nat.reduceBEq, id @f4r21.eq_1, uu f4b22.eq_1, uu f4b23.eq_1]
    exact hS
  by_cases h2 : (cells.length : Int) > 100
  · simp only [h2, List.length_map, Qs, if_true, if_false, List.nodup_nil, Nat.reduceBEq, List.length_map, id @f4r21.eq_1, uu f4b22.eq_1, uu f4b23.eq_1]
    exact hS
  by_cases h3 : (more.length : Int) > 100
  · simp only [h2, h3, List.length_map, Qs, if_true, if_false, List.nodup_nil, Nat.reduceBEq, List.length_map, id @f4r21.eq_1, uu f4b22.eq_1, uu f4b23.eq_1]
    exact hS
  simp only [h2, h3, List.length_map, Qs, if_true, if_false, Nat.reduceBEq, List.length_map, id @f4r19.eq_1, uu f4b20.eq_1, uu f4b23.eq_1]
  have c9 := o9 o q cells
  have c9' := o9 o q (moreL cells more (max cells.length more.length))
  have c16 := o16 o q cells
  rw [answerV] at c9 c9'
  by_cases hu : usable o q = 0
  · obtain ⟨k, ok⟩ := usable_ok hu
    have hk := ok.hk
    have hw := ok.wt
    rw [hu, answer_yes ok] at c9 c9'
    rw [needsO, if_pos hu, ruleT_at ok.hk ok.rx] at c16
    have hrn := reach_nil hw ok.ck cells
    have hvr := vr_eval hw cells
    have hmo := eval_mono (below_more cells more) hw
    obtain ⟨ck, cn, hc⟩ : ∃ a b, eval o.rules[k].term cells = Cell.mk a b := ⟨_, _, rfl⟩
    rw [hc] at hrn hvr hmo c9
    have hz' : (((reachT o.rules[k].term cells).length : Int) == 0) = ck := by
      cases ck
      · have h9 : ¬ reachT o.rules[k].term cells = [] := fun h => by simpa using hrn.1 h
        simp [h9]
      · rw [hrn.2 rfl]; rfl
    generalize reachT o.rules[k].term cells = l at *
    have hkn := clamp_known q ⟨ck, cn⟩
    cases ck
    · have hn0 : cn = 0 := by simpa [VR] using hvr
      subst hn0
      rw [clamp_un rfl] at c9
      obtain ⟨dk, dn, hd⟩ : ∃ a b, clampC q (eval o.rules[k].term (moreL cells more (max cells.length more.length))) = Cell.mk a b := ⟨_, _, rfl⟩
      rw [hd] at c9'
      have hz2 : ¬ (l.length : Int) = 0 := by simpa using hz'
      refine call_r c9 ?_
      simp only [encCell, Qs, bne_iff_ne, ne_eq, List.append_nil, Nat.reduceAdd, Nat.reduceMul, Nat.reduceEqDiff, Nat.reduceBEq, List.length_map, id @f4r17o0.eq_1, id @f4r17o1.eq_1, id @f4r17o2.eq_1, id @f4r17o3.eq_1, id @f4r17o4.eq_1, id @f4r17o5.eq_1, id @f4r17o6.eq_1, id @f4r17o7.eq_1, id @f4r17o8.eq_1, id @f4r17o9.eq_1, id @f4r17o10.eq_1, id @f4r17o11.eq_1, utf4r17, uu f4b18.eq_1]
      refine callQ_l (o20 cells more (by omega) (by omega)) ?_
      simp only [Qs, Nat.reduceBEq]
      refine callQ_l c9' ?_
      simp only [encCell, Qs, q_exLQ_eq_28, q_V_fz_eq_4, q_V_fzL_eq_1, q_V_fzL_eq_2, List.append_nil, Nat.reduceAdd, Nat.reduceBEq, List.length_map, id @f4r15.eq_1, uu f4b16.eq_1]
      refine call_r c16 ?_
      simp only [hz', hz2, Qs, q_AOp_dst_eq_6, q_AOp_dst_eq_11, q_exL_eq_12, q_vBinB_eq_1, q_regN_eq_1, if_true, if_false, BEq.rfl, List.nodup_nil, Nat.reduceAdd, Nat.reduceLeDiff, Nat.reduceBEq, q_guardP_eq_3, Int.reduceBNe, id @f4r1.eq_1, uu f4b2.eq_1, uu f4b5.eq_1, id @f4r6.eq_1, uu f4b7.eq_1, uu f4b8.eq_1, uu f4b11.eq_1, id @f4r12.eq_1, uu f4b13.eq_1, uu f4b14.eq_1]
      exact hS
    · rw [hmo rfl] at c9'
      obtain ⟨dk, dn, hd⟩ : ∃ a b, clampC q ⟨true, cn⟩ = Cell.mk a b := ⟨_, _, rfl⟩
      rw [hd] at c9 c9' hkn
      simp only [] at hkn
      subst hkn
      have hz2 : (l.length : Int) = 0 := by simpa using hz'
      refine call_r c9 ?_
      simp only [encCell, Qs, bne_iff_ne, ne_eq, List.append_nil, Nat.reduceAdd, Nat.reduceMul, Nat.reduceEqDiff, Nat.reduceBEq, List.length_map, id @f4r17o0.eq_1, id @f4r17o1.eq_1, id @f4r17o2.eq_1, id @f4r17o3.eq_1, id @f4r17o4.eq_1, id @f4r17o5.eq_1, id @f4r17o6.eq_1, id @f4r17o7.eq_1, id @f4r17o8.eq_1, id @f4r17o9.eq_1, id @f4r17o10.eq_1, id @f4r17o11.eq_1, utf4r17, uu f4b18.eq_1]
      refine callQ_l (o20 cells more (by omega) (by omega)) ?_
      simp only [Qs, Nat.reduceBEq]
      refine callQ_l c9' ?_
      simp only [encCell, Qs, q_exLQ_eq_28, q_V_fz_eq_4, q_V_fzL_eq_1, q_V_fzL_eq_2, List.append_nil, Nat.reduceAdd, Nat.reduceBEq, List.length_map, id @f4r15.eq_1, uu f4b16.eq_1]
      refine call_r c16 ?_
      simp only [hz', hz2, Qs, q_AOp_dst_eq_6, q_AOp_dst_eq_11, q_exL_eq_12, q_exL_eq_13, q_vBinB_eq_1, q_mapV_eq_1, q_eqRow_eq_1, q_eqRow_eq_2, q_eqC_eq_1, q_eqC_eq_2, q_regN_eq_1, if_true, if_false, BEq.rfl, List.nodup_nil, Nat.reduceAdd, Nat.reduceLeDiff, Nat.reduceBEq, q_guardP_eq_3, Int.reduceBNe, Option.bind_some, id @f4r1.eq_1, uu f4b2.eq_1, uu f4b5.eq_1, id @f4r6.eq_1, uu f4b7.eq_1, uu f4b8.eq_1, uu f4b11.eq_1, id @f4r12.eq_1, uu f4b13.eq_1, uu f4b14.eq_1]
      exact hS
  · rw [answer_no hu] at c9 c9'
    rw [needsO, if_neg hu] at c16
    refine call_r c9 ?_
    simp only [encCell, Qs, bne_iff_ne, ne_eq, List.append_nil, Nat.reduceAdd, Nat.reduceMul, Nat.reduceEqDiff, Nat.reduceBEq, List.length_map, id @f4r17o0.eq_1, id @f4r17o1.eq_1, id @f4r17o2.eq_1, id @f4r17o3.eq_1, id @f4r17o4.eq_1, id @f4r17o5.eq_1, id @f4r17o6.eq_1, id @f4r17o7.eq_1, id @f4r17o8.eq_1, id @f4r17o9.eq_1, id @f4r17o10.eq_1, id @f4r17o11.eq_1, utf4r17, uu f4b18.eq_1]
    refine callQ_l (o20 cells more (by omega) (by omega)) ?_
    simp only [Qs, Nat.reduceBEq]
    refine callQ_l c9' ?_
    simp only [encCell, Qs, q_exLQ_eq_28, q_V_fz_eq_4, q_V_fzL_eq_1, q_V_fzL_eq_2, List.append_nil, Nat.reduceAdd, Nat.reduceBEq, List.length_map, id @f4r15.eq_1, uu f4b16.eq_1]
    refine call_r c16 ?_
    simp only [hu, Qs, q_AOp_dst_eq_6, q_AOp_dst_eq_11, q_exL_eq_12, q_exL_eq_13, q_vBinB_eq_1, q_mapV_eq_1, q_eqRow_eq_1, q_eqRow_eq_2, q_eqC_eq_1, q_eqC_eq_2, q_regN_eq_1, if_true, if_false, forall_const, BEq.rfl, List.nodup_nil, Nat.reduceAdd, Nat.reduceLeDiff, Nat.reduceBEq, q_guardP_eq_3, Int.reduceBNe, Option.bind_some, b_ft, id @f4r1.eq_1, uu f4b2.eq_1, id @f4r3.eq_1, uu f4b4.eq_1, uu f4b5.eq_1, id @f4r6.eq_1, uu f4b7.eq_1, uu f4b8.eq_1, id @f4r9.eq_1, uu f4b10.eq_1, uu f4b11.eq_1, id @f4r12.eq_1, uu f4b13.eq_1, uu f4b14.eq_1]
    exact hS
end Go.Abs


set_option maxRecDepth 100000
namespace Go.Abs
open Go.Proofs
theorem upto_sorted : ∀ n : Nat, (upto n).Pairwise (· < ·) := by
  intro n
  rw [upto, List.pairwise_map]
  exact List.pairwise_lt_range.imp (fun h => by omega)
theorem needs_sorted (o : Order) (q : Int) (cells : List Cell) : (needsO o q cells).Pairwise (· < ·) := by
  unfold needsO
  split
  · unfold reachT
    split
    · exact .nil
    · exact (upto_sorted 20).filter _
  · exact .nil
theorem needs_len (o : Order) (q : Int) (cells : List Cell) : (needsO o q cells).length ≤ 20 := by
  unfold needsO reachT
  repeat' split
  · simp
  · exact Nat.le_trans (List.length_filter_le _ _) (by simp [upto])
  · simp
theorem uses_len (o : Order) (q : Int) : (usesQ o q).length ≤ 20 := by
  unfold usesQ varsT
  repeat' split
  · simp
  · exact Nat.le_trans (List.length_filter_le _ _) (by simp [upto])
  · simp
theorem uses_range {o : Order} {q v : Int} (h : v ∈ usesQ o q) : 0 ≤ v ∧ v < 20 := by
  unfold usesQ varsT at h
  split at h
  · split at h
    · cases h
    · have := (List.mem_filter.1 h).1
      simp only [upto, List.mem_map, List.mem_range] at this
      obtain ⟨a, ha, rfl⟩ := this
      omega
  · cases h
theorem uses_has {o : Order} {q v : Int} {k : Nat} (ok : UseOk o q k) (hv : used (o.rules[k]'ok.hk).term v = true) : hasI (usesQ o q) v = true := by
  obtain ⟨g1, g2⟩ := wt_range ok.wt v hv
  rw [mem_hasI, usesQ, if_pos ok.usable, ruleT_at ok.hk ok.rx, varsT, if_neg (by simp [ok.ck]), List.mem_filter]
  exact ⟨by simp [upto]; exact ⟨v.toNat, by omega, by omega⟩, hv⟩
theorem needs_mem {o : Order} {q v : Int} {cells : List Cell} (h : v ∈ needsO o q cells) : ∃ k, ∃ ok : UseOk o q k, v ∈ runN (o.rules[k]'ok.hk).term cells := by
  unfold needsO at h
  split at h
  · rename_i hu
    obtain ⟨k, ok⟩ := usable_ok hu
    rw [ruleT_at ok.hk ok.rx] at h
    exact ⟨k, ok, (mem_reach ok.wt ok.ck cells v).1 h⟩
  · cases h
theorem needs_fact {o : Order} {q v : Int} {cells : List Cell} (h : v ∈ needsO o q cells) : hasI (usesQ o q) v = true ∧ 0 ≤ v ∧ v < 20 ∧ (cells.getD v.toNat zC).known = false := by
  obtain ⟨k, ok, hv⟩ := needs_mem h
  obtain ⟨g1, g2, g3, g4⟩ := runN_mem ok.wt cells v hv
  exact ⟨uses_has ok g2, g3, g4, by rw [← value_known g3]; exact g1⟩
def blank (base : List Cell) (vs : List Int) : List Cell := vs.foldl (fun (l : List Cell) (v : Int) => if v < l.length then l.set v.toNat zC else l) base
theorem blank_len : ∀ (vs : List Int) (base : List Cell), (blank base vs).length = base.length
  | [], base => rfl
  | v :: vs, base => by
    rw [blank, List.foldl_cons]
    have := blank_len vs (if v < base.length then base.set v.toNat zC else base)
    rw [blank] at this
    rw [this]
    split <;> simp
theorem blank_snoc (base : List Cell) (vs : List Int) (v : Int) : blank base (vs ++ [v]) = if v < (blank base vs).length then (blank base vs).set v.toNat zC else blank base vs := by
  rw [blank, List.foldl_append]; rfl
theorem blank_get : ∀ (vs : List Int) (base : List Cell) (j : Nat), (∀ v, v ∈ vs → 0 ≤ v) → (blank base vs).getD j zC = if (j : Int) ∈ vs then zC else base.getD j zC
  | [], base, j, _ => by simp [blank]
  | v :: vs, base, j, h => by
    rw [blank, List.foldl_cons]
    have ih := blank_get vs (if v < base.length then base.set v.toNat zC else base) j (fun x hx => h x (by simp [hx]))
    rw [blank] at ih
    rw [ih]
    have hv := h v (by simp)
    by_cases hj : (j : Int) ∈ vs
    · rw [if_pos hj, if_pos (show (j : Int) ∈ v :: vs from List.mem_cons_of_mem _ hj)]
    · rw [if_neg hj]
      by_cases hjv : (j : Int) = v
      · rw [if_pos (show (j : Int) ∈ v :: vs by rw [hjv]; exact List.mem_cons_self)]
        have e : v.toNat = j := by omega
        by_cases hl : v < (base.length : Int)
        · simp only [hl, if_true]
          rw [e, List.getD_eq_getElem?_getD, List.getElem?_set_self (by omega)]; rfl
        · simp only [hl, if_false]
          rw [List.getD_eq_getElem?_getD, List.getElem?_eq_none (by omega)]; rfl
      · rw [if_neg (show ¬ (j : Int) ∈ v :: vs from fun h => (List.mem_cons.1 h).elim hjv hj)]
        by_cases hl : v < (base.length : Int)
        · simp only [hl, if_true]
          rw [List.getD_eq_getElem?_getD, List.getElem?_set_ne (by omega), ← List.getD_eq_getElem?_getD]
        · simp only [hl, if_false]
theorem rest_unknown {o : Order} {q : Int} {cells more : List Cell} (h : needsO o q cells ≠ []) : usable o q = 0 ∧ (answerC o q (blank (moreL cells more (max cells.length more.length)) (needsO o q cells))).known = false := by
  obtain ⟨v0, hv0⟩ := List.exists_mem_of_ne_nil _ h
  obtain ⟨k, ok, hr0⟩ := needs_mem hv0
  refine ⟨ok.usable, ?_⟩
  rw [answer_yes ok, clamp_known]
  have hpos : ∀ v, v ∈ needsO o q cells → 0 ≤ v := fun v hv => (needs_fact hv).2.1
  have hnd : ∀ v, v ∈ runN (o.rules[k]'ok.hk).term cells → v ∈ needsO o q cells := by
    intro v hv
    rw [needsO, if_pos ok.usable, ruleT_at ok.hk ok.rx]
    exact (mem_reach ok.wt ok.ck cells v).2 hv
  refine eval_stays (c := cells) ?_ ok.wt ?_ ?_
  · intro v h0 h20 hk
    have e : (blank (moreL cells more (max cells.length more.length)) (needsO o q cells)).getD v.toNat zC = cells.getD v.toNat zC := by
      rw [value_known h0] at hk
      have hl := getD_known hk
      rw [blank_get _ _ _ hpos]
      have e1 : ((v.toNat : Nat) : Int) = v := by omega
      rw [e1, if_neg (fun hm => by have := (needs_fact hm).2.2.2; rw [hk] at this; cases this)]
      rw [moreL_get cells more (by omega), moreF, if_pos ⟨hl, .inl hk⟩]
    rw [valueC_eq h0, valueC_eq h0, e]
  · apply Classical.byContradiction
    intro hc
    have := (runN_nil ok.wt cells).2 (by simpa using hc)
    rw [this] at hr0; cases hr0
  · intro v hv
    have h0 := hpos v (hnd v hv)
    rw [value_known h0, blank_get _ _ _ hpos]
    have e1 : ((v.toNat : Nat) : Int) = v := by omega
    rw [e1, if_pos (hnd v hv)]; rfl
def knF (cells : List Cell) (vs : List Int) (j : Nat) : Cell :=
  if hasI vs j = true then ⟨true, (if (cells.getD j zC).known = true then cells.getD j zC else zC).n⟩ else (if (cells.getD j zC).known = true then cells.getD j zC else zC)
theorem all_known18 {o : Order} {q : Int} (cells : List Cell) (hu : usable o q = 0) : (answerC o q (mixZ (knF cells (usesQ o q)) 20)).known = true := by
  obtain ⟨k, ok⟩ := usable_ok hu
  rw [answer_yes ok, clamp_known]
  refine eval_all ok.wt fun v hv => ?_
  obtain ⟨g1, g2⟩ := wt_range ok.wt v hv
  rw [value_known g1, mixZ_get _ g1 g2, knF]
  have e1 : ((v.toNat : Nat) : Int) = v := by omega
  rw [e1, if_pos (uses_has ok hv)]
theorem uses_nil {o : Order} {q : Int} (h : usable o q ≠ 0) : usesQ o q = [] := if_neg h
end Go.Abs


set_option maxRecDepth 100000
set_option maxHeartbeats 4000000
namespace Go.Abs
open Go.Proofs
theorem sorted_at {l : List Int} (h : l.Pairwise (· < ·)) {i : Nat} (hi : i < l.length) (h0 : 0 < i) : l[i - 1] < l[i] := List.pairwise_iff_getElem.1 h (i - 1) i (by omega) hi (by omega)
theorem has_take {l : List Int} {i : Nat} (h : i < l.length) (v : Int) : hasI (l.take (i + 1)) v = (hasI (l.take i) v || decide (l[i] = v)) := by
  unfold hasI
  rw [List.take_add_one, List.getElem?_eq_getElem h, List.any_append]; simp
theorem mixZ_at2 (f : Nat → Cell) {n : Nat} (h : n < (mixZ f 20).length) : (mixZ f 20)[n] = f n := by
  have h2 : n < 20 := by rw [mixZ_len] at h; exact h
  simp [mixZ, h2]
def kn0 (cells : List Cell) (j : Nat) : Cell := if (cells.getD j zC).known = true then cells.getD j zC else zC
theorem kn_nil (cells : List Cell) : knF cells [] = kn0 cells := by
  funext j
  simp [knF, kn0, hasI]
theorem kn_step {cells : List Cell} {U : List Int} {i n : Nat} (h : i < U.length) (hn : U[i] = n) : mixZ (knF cells (U.take (i + 1))) 20 = (mixZ (knF cells (U.take i)) 20).set n ⟨true, (knF cells (U.take i) n).n⟩ := by
  apply List.ext_getElem
  · simp [mixZ_len]
  intro j h1 h2
  rw [List.getElem_set, mixZ_at2, mixZ_at2]
  by_cases e : n = j
  · subst e
    rw [if_pos rfl, knF, has_take h, hn]
    simp [knF]
    split <;> split <;> rfl
  · rw [if_neg e, knF, knF, has_take h, hn]
    have e2 : ¬ (n : Int) = j := by omega
    simp [e2]
theorem l5rest (o : Order) (q : Int) (cells : List Cell) (S : V → Prop) (hS : S (.bool true)) (ts : TS) (os : OS)
    (ht : keepT ts [1, 2, 4, 9, 11, 20, 21] = [(1, .int .i64 q), (2, lst 2 (cells.map encCell)), (4, .k (.ptr 4 0)), (9, .bool true), (11, lst 1 (ints (usesQ o q))), (20, .k (.own 147)), (21, .int .i64 (0 : Nat))])
    (ho : keepO os [4, 46, 147, 47000, 47001, 47002] = [(4, .var 25 ((encOrder o).map .c)), (147, .arr 30 2 (some false) ((mixZ (kn0 cells) 0).map encCell))]) (hc : cells.length ≤ 100) :
    awl Tryd.prog f5l35 (AE.inBlockL 6 (AE.thenL (awl Tryd.prog f5b23 (endK [RX.t 8] S)) (endK [RX.t 8] S))) ts os := by
  have hul := uses_len o q
  have hur : ∀ v, v ∈ usesQ o q → 0 ≤ v ∧ v < 20 := fun v hv => uses_range hv
  have hall := all_known18 (o := o) (q := q) cells
  have hnil := uses_nil (o := o) (q := q)
  generalize usesQ o q = U at *
  rw [uf5l35]
  refine awl_loop (fun i : Nat => [(1, .int .i64 q), (2, lst 2 (cells.map encCell)), (4, .k (.ptr 4 0)), (9, .bool true), (11, lst 1 (ints U)), (20, .k (.own 147)), (21, .int .i64 i)])
    (fun i => [(4, .var 25 ((encOrder o).map .c)), (147, .arr 30 2 (some false) ((mixZ (kn0 cells) i).map encCell))]) (fun i => i ≤ 20) (fun i => 20 - i) 0 ht ho (Nat.zero_le _) ?_
  intro i hi
  have hlen := mixZ_len (kn0 cells) i
  by_cases hlt : i < 20
  · have c1 : (i : Int) < 20 := by omega
    have c4 : IntKind.i64.wrap ((i : Int) + 1) = (i : Int) + 1 := wrap_in (by omega) (by omega)
    have c5 : ((20 : Nat) : Int) = 20 := rfl
    have hs := mixZ_set (kn0 cells) hlt
    by_cases hc : i < cells.length
    · have ca : (i : Int) < cells.length := by omega
      have ec : cells.getD i zC = cells[i] := by simp [hc]
      obtain ⟨xk, xn, e⟩ : ∃ k n, cells[i] = Cell.mk k n := ⟨_, _, rfl⟩
      rw [e] at ec
      cases xk
      · have h0 : kn0 cells i = zC := by rw [kn0, ec]; rfl
        have hk := mixZ_skip (kn0 cells) hlt h0
        simp only [c1, c4, c5, ca, hlen, map_at hc, e, encCell, List.length_map, Qs, if_true, Nat.reduceLeDiff, Nat.reduceBEq, List.length_map, id @f5r24.eq_1, id @f5r25.eq_1, uu f5b26.eq_1, id @f5r27.eq_1, uu f5b28.eq_1, uu f5b29.eq_1, uu f5b30.eq_1, uu f5b31.eq_1, id @f5r32.eq_1, uu f5b33.eq_1, uu f5b34.eq_1]
        exact Next.intro (i + 1) rfl (by rw [← hk]; rfl) (by omega) (by omega)
      · have h0 : kn0 cells i = ⟨true, xn⟩ := by rw [kn0, ec]; rfl
        rw [h0] at hs
        simp only [encCell] at hs
        simp only [c1, c4, c5, ca, hlen, map_at hc, e, encCell, List.length_map, Qs, q_stArrK_eq_1, q_storeK_eq_2, if_true, Nat.reduceAdd, Nat.reduceLeDiff, Nat.reduceBEq, List.length_map, id @f5r24.eq_1, id @f5r25.eq_1, uu f5b26.eq_1, id @f5r27.eq_1, uu f5b28.eq_1, uu f5b29.eq_1, uu f5b30.eq_1, uu f5b31.eq_1, id @f5r32.eq_1, uu f5b33.eq_1, uu f5b34.eq_1]
        exact Next.intro (i + 1) rfl (by rw [← hs]; rfl) (by omega) (by omega)
    · have ca : ¬ (i : Int) < cells.length := by omega
      have h0 : kn0 cells i = zC := by
        rw [kn0, List.getD_eq_getElem?_getD, List.getElem?_eq_none (Nat.le_of_not_lt hc)]; rfl
      have hk := mixZ_skip (kn0 cells) hlt h0
      simp only [c1, c4, c5, ca, hlen, List.length_map, Qs, if_true, Nat.reduceBEq, List.length_map, id @f5r24.eq_1, id @f5r25.eq_1, uu f5b26.eq_1, id @f5r27.eq_1, uu f5b28.eq_1, uu f5b29.eq_1, uu f5b30.eq_1, uu f5b31.eq_1, id @f5r32.eq_1, uu f5b33.eq_1, uu f5b34.eq_1]
      exact Next.intro (i + 1) rfl (by rw [← hk]; rfl) (by omega) (by omega)
  have c1 : ¬ (i : Int) < 20 := by omega
  have c5 : ((20 : Nat) : Int) = 20 := rfl
  obtain rfl : i = 20 := by omega
  simp only [c1, c5, hlen, List.length_map, Qs, if_true, Nat.reduceBEq, List.length_map, Int.reduceLT, uu f5b20.eq_1, id @f5r21.eq_1, uu f5b22.eq_1, uu f5b23.eq_1, uu f5b31.eq_1, id @f5r32.eq_1, uu f5b33.eq_1, uu f5b34.eq_1]
  rw [uf5l19, ← kn_nil]
  refine awl_loop (fun i : Nat => [(1, .int .i64 q), (4, .k (.ptr 4 0)), (9, .bool true), (11, lst 1 (ints U)), (20, .k (.own 147)), (22, .int .i64 i)])
    (fun i => [(4, .var 25 ((encOrder o).map .c)), (147, .arr 30 2 (some false) ((mixZ (knF cells (U.take i)) 20).map encCell))]) (fun i => i ≤ U.length) (fun i => U.length - i) 0 rfl (by simp only [List.take_zero]; rfl) (Nat.zero_le _) ?_
  clear hi hlt c1 hlen ht ho
  intro i hi
  have hlen := mixZ_len (knF cells (U.take i)) 20
  by_cases hlt : i < U.length
  · have c1 : (i : Int) < U.length := by omega
    have c4 : IntKind.i64.wrap ((i : Int) + 1) = (i : Int) + 1 := wrap_in (by omega) (by omega)
    obtain ⟨g1, g2⟩ := hur _ (List.getElem_mem hlt)
    obtain ⟨n, hn⟩ : ∃ n : Nat, U[i] = (n : Int) := ⟨U[i].toNat, by omega⟩
    have n20 : n < 20 := by omega
    have hst := kn_step (cells := cells) hlt hn
    have hin : n < (mixZ (knF cells (U.take i)) 20).length := by rw [hlen]; exact n20
    have hat := mixZ_at2 (knF cells (U.take i)) hin
    generalize knF cells (U.take i) n = x at hat hst
    obtain ⟨xk, xn⟩ := x
    generalize mixZ (knF cells (U.take i)) 20 = L at *
    have d1 : ¬ (n : Int) < 0 := by omega
    have d2 : ¬ (n : Int) ≥ 20 := by omega
    have d3 : (0 : Int) ≤ n := by omega
    have d4 : (n : Int) < 20 := by omega
    simp only [c1, c4, c5, hlen, ints_at hlt, hn, d1, d2, d3, d4, map_at hin, hat, encCell, List.length_map, Qs, q_stArrK_eq_1, q_storeK_eq_2, if_true, if_false, Nat.reduceEqDiff, Nat.reduceLeDiff, Nat.reduceBEq, List.length_map, id @f5r5.eq_1, id @f5r6.eq_1, uu f5b9.eq_1, id @f5r10.eq_1, uu f5b11.eq_1, uu f5b12.eq_1, uu f5b13.eq_1, uu f5b14.eq_1, uu f5b15.eq_1, id @f5r16.eq_1, uu f5b17.eq_1, uu f5b18.eq_1]
    exact Next.intro (i + 1) rfl (by rw [hst, List.map_set]; rfl) (by omega) (by omega)
  have c1 : ¬ (i : Int) < U.length := by omega
  obtain rfl : i = U.length := by omega
  rw [List.take_length]
  have c9 := o9 o q (mixZ (knF cells U) 20)
  obtain ⟨bk, bn, hb⟩ : ∃ a b, answerC o q (mixZ (knF cells U) 20) = Cell.mk a b := ⟨_, _, rfl⟩
  rw [answerV, hb] at c9
  rw [hb] at hall
  generalize mixZ (knF cells U) 20 = L at *
  simp only [c1, List.length_map, Qs, if_true, if_false, Nat.reduceEqDiff, Nat.reduceBEq, List.length_map, z_V_k, z_K_c, z_O_var, z_frzT, z_frzO, r_map_frz, q_awl_eq_14, z_K_own_arr, z_K_ptr_arr, id @f5r3.eq_1, uu f5b4.eq_1, uu f5b15.eq_1, id @f5r16.eq_1, uu f5b17.eq_1, uu f5b18.eq_1]
  refine call_r c9 ?_ (ha := by simp [lendL, V.norm, norm_list, encOrder, lstC])
  by_cases hu : usable o q = 0
  · have hk : bk = true := hall hu
    subst hk
    simp only [encCell, hu, Qs, if_true, if_false, bne_iff_ne, ne_eq, BEq.rfl, List.append_nil, List.nodup_nil, Nat.reduceAdd, Nat.reduceMul, Nat.reduceEqDiff, Nat.reduceLeDiff, Nat.reduceBEq, Int.reduceBNe, id @f5r1.eq_1, uu f5b2.eq_1]
    exact hS
  · have hU : U = [] := hnil hu
    subst hU
    simp only [encCell, hu, Qs, if_true, if_false, forall_const, bne_iff_ne, ne_eq, BEq.rfl, List.append_nil, List.nodup_nil, Nat.reduceAdd, Nat.reduceMul, Nat.reduceEqDiff, Nat.reduceLeDiff, Nat.reduceBEq, q_guardP_eq_3, id @f5r1.eq_1, uu f5b2.eq_1]
    exact hS
theorem l5 (o : Order) (q : Int) (cells more : List Cell) : Spec Tryd.prog 5 [.agg (encOrder o), .int .i64 q, lst 2 (cells.map encCell), lst 2 (more.map encCell)] (fun r => r = .bool true) := by
  refine Spec.of_awlS hf5 okf5 (by simp) fun S hS => ?_
  simp only [Qs, Nat.reduceAdd, Nat.reduceBEq, uu f5.eq_1, id @f5r112.eq_1, uu f5b113.eq_1, id @f5r114.eq_1, uu f5b115.eq_1]
  refine call_s o7 ?_
  simp only [Qs, Nat.reduceBEq, List.length_map, id @f5r109.eq_1, uu f5b110.eq_1, uu f5b111.eq_1]
  refine call_s (o8 o) ?_
  cases h1 : few18 o
  · simp only [Qs, List.nodup_nil, Nat.reduceBEq, id @f5r106.eq_1, uu f5b107.eq_1, uu f5b108.eq_1]
    exact hS
  by_cases h2 : (cells.length : Int) > 100
  · simp only [h2, List.length_map, Qs, if_true, if_false, List.nodup_nil, Nat.reduceBEq, List.length_map, id @f5r106.eq_1, uu f5b107.eq_1, uu f5b108.eq_1]
    exact hS
  by_cases h3 : (more.length : Int) > 100
  · simp only [h2, h3, List.length_map, Qs, if_true, if_false, List.nodup_nil, Nat.reduceBEq, List.length_map, id @f5r106.eq_1, uu f5b107.eq_1, uu f5b108.eq_1]
    exact hS
  simp only [h2, h3, List.length_map, Qs, if_true, if_false, Nat.reduceBEq, List.length_map, id @f5r104.eq_1, uu f5b105.eq_1, uu f5b108.eq_1]
  have hsr := needs_sorted o q cells
  have hnl := needs_len o q cells
  have hfa : ∀ v, v ∈ needsO o q cells → hasI (usesQ o q) v = true ∧ 0 ≤ v ∧ v < 20 ∧ (cells.getD v.toNat zC).known = false := fun v hv => needs_fact hv
  have hul := uses_len o q
  have c16 := o16 o q cells
  have c18 := o18 o q
  have hun := rest_unknown (o := o) (q := q) (cells := cells) (more := more)
  generalize needsO o q cells = N at *
  generalize hU : usesQ o q = U at *
  refine call_r c16 ?_
  simp only [Qs, q_regN_eq_1, Nat.reduceBEq, List.length_map, id @f5r102.eq_1, uu f5b103.eq_1]
  refine call_r c18 ?_
  simp only [Qs, q_regN_eq_1, uu f5b98.eq_1, id @f5r99.eq_1, uu f5b100.eq_1, uu f5b101.eq_1]
  rw [uf5l97]
  refine awl_loop (fun i : Nat => [(1, .int .i64 q), (2, lst 2 (cells.map encCell)), (3, lst 2 (more.map encCell)), (4, .k (.ptr 4 0)), (9, .bool true), (10, lst 1 (ints N)), (11, lst 1 (ints U)), (12, .int .i64 i)])
    (fun _ => [(4, .var 25 ((encOrder o).map .c))]) (fun i => i ≤ N.length) (fun i => N.length - i) 0 rfl rfl (Nat.zero_le _) ?_
  intro i hi
  by_cases hlt : i < N.length
  · have c1 : (i : Int) < N.length := by omega
    have c4 : IntKind.i64.wrap ((i : Int) + 1) = (i : Int) + 1 := wrap_in (by omega) (by omega)
    obtain ⟨g1, g2, g3, g4⟩ := hfa _ (List.getElem_mem hlt)
    obtain ⟨n, hn⟩ : ∃ n : Nat, N[i] = (n : Int) := ⟨N[i].toNat, by omega⟩
    rw [hn] at g1 g2 g3 g4
    simp only [c1, c4, ints_at hlt, hn, Qs, if_true, Nat.reduceBEq, id @f5r68.eq_1, uu f5b83.eq_1, id @f5r84.eq_1, uu f5b85.eq_1, uu f5b86.eq_1, id @f5r87.eq_1, uu f5b88.eq_1, id @f5r89.eq_1, uu f5b90.eq_1, uu f5b91.eq_1, uu f5b92.eq_1, uu f5b93.eq_1, id @f5r94.eq_1, uu f5b95.eq_1, uu f5b96.eq_1]
    rw [uf5l82]
    refine awl_loop (fun j : Nat => [(1, .int .i64 q), (2, lst 2 (cells.map encCell)), (3, lst 2 (more.map encCell)), (4, .k (.ptr 4 0)), (9, .bool true), (10, lst 1 (ints N)), (11, lst 1 (ints U)), (12, .int .i64 i), (13, .int .i64 n), (14, .bool (hasI (U.take j) n)), (15, .int .i64 j)])
      (fun _ => [(4, .var 25 ((encOrder o).map .c))]) (fun j => j ≤ U.length) (fun j => U.length - j) 0 rfl rfl (Nat.zero_le _) ?_
    intro j hj
    by_cases hlj : j < U.length
    · have d1 : (j : Int) < U.length := by omega
      have d4 : IntKind.i64.wrap ((j : Int) + 1) = (j : Int) + 1 := wrap_in (by omega) (by omega)
      have ht := has_take hlj n
      cases hh : hasI (U.take j) n
      · rw [hh] at ht
        simp only [d1, d4, ints_at hlj, Qs, if_true, if_false, Nat.reduceBEq, id @f5r74.eq_1, id @f5r75.eq_1, uu f5b76.eq_1, uu f5b77.eq_1, uu f5b78.eq_1, id @f5r79.eq_1, uu f5b80.eq_1, uu f5b81.eq_1]
        exact Next.intro (j + 1) (by rw [ht]; rfl) rfl (by omega) (by omega)
      · rw [hh] at ht
        simp only [d1, d4, ints_at hlj, Qs, if_true, Nat.reduceBEq, id @f5r74.eq_1, id @f5r75.eq_1, uu f5b76.eq_1, uu f5b77.eq_1, uu f5b78.eq_1, id @f5r79.eq_1, uu f5b80.eq_1, uu f5b81.eq_1]
        exact Next.intro (j + 1) (by rw [ht]; rfl) rfl (by omega) (by omega)
    have d1 : ¬ (j : Int) < U.length := by omega
    obtain rfl : j = U.length := by omega
    rw [List.take_length, g1]
    have n0 : ¬ (n : Int) < 0 := by omega
    have n1 : (0 : Int) ≤ n := by omega
    by_cases hnc : n < cells.length
    · have e1 : (n : Int) < cells.length := by omega
      obtain ⟨xk, xn, hx⟩ : ∃ k m, cells[n] = Cell.mk k m := ⟨_, _, rfl⟩
      have g5 : (cells.getD n zC).known = false := g4
      have g6 : cells.getD n zC = cells[n] := by simp [hnc]
      rw [g6, hx] at g5
      simp only [] at g5
      subst g5
      by_cases hi0 : 0 < i
      · have f1 : (i : Int) > 0 := by omega
        have f2 : IntKind.i64.wrap ((i : Int) - 1) = ((i - 1 : Nat) : Int) := by rw [wrap_in (by omega) (by omega)]; omega
        have f3 : i - 1 < N.length := by omega
        have f4 : ((i - 1 : Nat) : Int) < N.length := by omega
        have f5 : (0 : Int) ≤ ((i - 1 : Nat) : Int) := by omega
        have f6 := sorted_at hsr hlt hi0
        rw [hn] at f6
        have f7 : ¬ N[i - 1] ≥ (n : Int) := by omega
        simp only [d1, n0, n1, e1, map_at hnc, hx, encCell, f1, f2, f4, f5, f7, ints_at f3, ints_at hlt, c4, List.length_map, Qs, if_true, if_false, reduceCtorEq, Nat.reduceLeDiff, Nat.reduceBEq, List.length_map, uu f5b71.eq_1, id @f5r72.eq_1, uu f5b73.eq_1, uu f5b78.eq_1, id @f5r79.eq_1, uu f5b80.eq_1, uu f5b81.eq_1]
        exact Next.intro (i + 1) rfl rfl (by omega) (by omega)
      · have f1 : ¬ (i : Int) > 0 := by omega
        simp only [d1, n0, n1, e1, map_at hnc, hx, encCell, f1, c4, ints_at hlt, List.length_map, Qs, if_true, if_false, reduceCtorEq, Nat.reduceLeDiff, Nat.reduceBEq, List.length_map, uu f5b71.eq_1, id @f5r72.eq_1, uu f5b73.eq_1, uu f5b78.eq_1, id @f5r79.eq_1, uu f5b80.eq_1, uu f5b81.eq_1]
        exact Next.intro (i + 1) rfl rfl (by omega) (by omega)
    · have e1 : ¬ (n : Int) < cells.length := by omega
      by_cases hi0 : 0 < i
      · have f1 : (i : Int) > 0 := by omega
        have f2 : IntKind.i64.wrap ((i : Int) - 1) = ((i - 1 : Nat) : Int) := by rw [wrap_in (by omega) (by omega)]; omega
        have f3 : i - 1 < N.length := by omega
        have f4 : ((i - 1 : Nat) : Int) < N.length := by omega
        have f5 : (0 : Int) ≤ ((i - 1 : Nat) : Int) := by omega
        have f6 := sorted_at hsr hlt hi0
        rw [hn] at f6
        have f7 : ¬ N[i - 1] ≥ (n : Int) := by omega
        simp only [d1, n0, n1, e1, f1, f2, f4, f5, f7, ints_at f3, ints_at hlt, c4, List.length_map, Qs, if_true, if_false, reduceCtorEq, Nat.reduceBEq, List.length_map, uu f5b71.eq_1, id @f5r72.eq_1, uu f5b73.eq_1, uu f5b78.eq_1, id @f5r79.eq_1, uu f5b80.eq_1, uu f5b81.eq_1]
        exact Next.intro (i + 1) rfl rfl (by omega) (by omega)
      · have f1 : ¬ (i : Int) > 0 := by omega
        simp only [d1, n0, n1, e1, f1, c4, ints_at hlt, List.length_map, Qs, if_true, if_false, reduceCtorEq, Nat.reduceBEq, List.length_map, uu f5b71.eq_1, id @f5r72.eq_1, uu f5b73.eq_1, uu f5b78.eq_1, id @f5r79.eq_1, uu f5b80.eq_1, uu f5b81.eq_1]
        exact Next.intro (i + 1) rfl rfl (by omega) (by omega)
  have c1 : ¬ (i : Int) < N.length := by omega
  obtain rfl : i = N.length := by omega
  have c20 := o20 cells more (by omega) (by omega)
  generalize hM : moreL cells more (max cells.length more.length) = M at *
  simp only [c1, List.length_map, Qs, if_true, implies_true, bne_iff_ne, ne_eq, Nat.reduceAdd, Nat.reduceEqDiff, Nat.reduceBEq, List.not_mem_nil, implies_true, id @f5r66.eq_1, uu f5b67.eq_1, uu f5b93.eq_1, id @f5r94.eq_1, uu f5b95.eq_1, uu f5b96.eq_1]
  refine call_l c20 ?_
  simp only [List.length_map, Qs, if_true, if_false, Nat.reduceEqDiff, Nat.reduceBEq, List.length_map, r_map_scrub, uu f5b62.eq_1, id @f5r63.eq_1, uu f5b64.eq_1, uu f5b65.eq_1]
  have hml : M.length ≤ 100 := by rw [← hM, moreL_len]; omega
  refine ⟨by omega, by omega, ?_⟩
  have hap : nlApp (some false) (M.map encCell) = some false := by cases M <;> rfl
  rw [hap, uf5l61]
  refine awl_loop (fun i : Nat => [(1, .int .i64 q), (2, lst 2 (cells.map encCell)), (4, .k (.ptr 4 0)), (9, .bool true), (10, lst 1 (ints N)), (11, lst 1 (ints U)), (16, .k (.own 104)), (17, .int .i64 i)])
    (fun i => [(4, .var 25 ((encOrder o).map .c)), (104, .arr 30 2 (some false) ((blank M (N.take i)).map encCell))]) (fun i => i ≤ N.length) (fun i => N.length - i) 0 rfl (by simp only [List.take_zero]; rfl) (Nat.zero_le _) ?_
  intro i hi
  have hbl := blank_len (N.take i) M
  by_cases hlt : i < N.length
  · have c1 : (i : Int) < N.length := by omega
    have c4 : IntKind.i64.wrap ((i : Int) + 1) = (i : Int) + 1 := wrap_in (by omega) (by omega)
    obtain ⟨g1, g2, g3, g4⟩ := hfa _ (List.getElem_mem hlt)
    obtain ⟨n, hn⟩ : ∃ n : Nat, N[i] = (n : Int) := ⟨N[i].toNat, by omega⟩
    have hsn : blank M (N.take (i + 1)) = if (n : Int) < (blank M (N.take i)).length then (blank M (N.take i)).set n zC else blank M (N.take i) := by
      rw [List.take_add_one, List.getElem?_eq_getElem hlt]
      simp only [Option.toList_some]
      rw [blank_snoc, hn]; rfl
    generalize blank M (N.take i) = B at *
    by_cases hb : n < B.length
    · have e1 : (n : Int) < B.length := by omega
      have e2 : (0 : Int) ≤ n := by omega
      rw [if_pos e1] at hsn
      simp only [c1, c4, ints_at hlt, hn, e1, e2, map_at hb, List.length_map, Qs, q_stArrK_eq_1, q_storeK_eq_2, if_true, Nat.reduceAdd, Nat.reduceBEq, List.length_map, id @f5r50.eq_1, id @f5r51.eq_1, uu f5b52.eq_1, id @f5r53.eq_1, uu f5b54.eq_1, uu f5b55.eq_1, uu f5b56.eq_1, uu f5b57.eq_1, id @f5r58.eq_1, uu f5b59.eq_1, uu f5b60.eq_1]
      exact Next.intro (i + 1) rfl (by rw [hsn, List.map_set]; rfl) (by omega) (by omega)
    · have e1 : ¬ (n : Int) < B.length := by omega
      rw [if_neg e1] at hsn
      simp only [c1, c4, ints_at hlt, hn, e1, List.length_map, Qs, if_true, Nat.reduceBEq, List.length_map, id @f5r50.eq_1, id @f5r51.eq_1, uu f5b52.eq_1, id @f5r53.eq_1, uu f5b54.eq_1, uu f5b55.eq_1, uu f5b56.eq_1, uu f5b57.eq_1, id @f5r58.eq_1, uu f5b59.eq_1, uu f5b60.eq_1]
      exact Next.intro (i + 1) rfl (by rw [hsn]; rfl) (by omega) (by omega)
  have c1 : ¬ (i : Int) < N.length := by omega
  obtain rfl : i = N.length := by omega
  rw [List.take_length] at hbl ⊢
  have c9 := o9 o q (blank M N)
  have hun : N ≠ [] → usable o q = 0 ∧ (answerC o q (blank M N)).known = false := hun
  generalize blank M N = B at *
  simp only [c1, List.length_map, Qs, if_true, if_false, Nat.reduceEqDiff, Nat.reduceBEq, List.length_map, z_V_k, z_K_c, z_O_var, z_frzT, z_frzO, r_map_frz, q_awl_eq_14, z_K_own_arr, z_K_ptr_arr, id @f5r48.eq_1, uu f5b49.eq_1, uu f5b57.eq_1, id @f5r58.eq_1, uu f5b59.eq_1, uu f5b60.eq_1]
  clear hi hlt c1 hfa
  obtain ⟨bk, bn, hb⟩ : ∃ a b, answerC o q B = Cell.mk a b := ⟨_, _, rfl⟩
  rw [answerV, hb] at c9
  rw [hb] at hun
  refine call_r c9 ?_ (ha := by simp [lendL, V.norm, norm_list, encOrder, lstC])
  have hnk : N ≠ [] → usable o q = 0 ∧ bk = false := fun h => hun h
  clear c9 c16 hun hsr
  by_cases hN : N = []
  · have e1 : ¬ (N.length : Int) > 0 := by rw [hN]; decide
    simp only [encCell, e1, Qs, q_exL_eq_18, q_mkslK_eq_1, q_V_noRef_eq_5, if_true, bne_iff_ne, ne_eq, List.append_nil, Nat.reduceAdd, Nat.reduceMul, Nat.reduceEqDiff, Nat.reduceBEq, q_guardP_eq_3, Int.reduceLE, Int.reduceToNat, uu f5b36.eq_1, id @f5r37.eq_1, uu f5b38.eq_1, uu f5b39.eq_1, id @f5r40.eq_1, uu f5b41.eq_1, uu f5b44.eq_1, id @f5r45.eq_1, uu f5b46.eq_1, uu f5b47.eq_1]
    refine ⟨by decide, ?_⟩
    subst hU
    exact l5rest o q cells S hS _ _ rfl rfl (by omega)
  · obtain ⟨e0, rfl⟩ := hnk hN
    have e1 : (N.length : Int) > 0 := by have := List.length_pos_iff.2 hN; omega
    simp only [encCell, e1, e0, Qs, q_exL_eq_18, q_mkslK_eq_1, if_true, if_false, bne_iff_ne, ne_eq, List.append_nil, Nat.reduceAdd, Nat.reduceMul, Nat.reduceEqDiff, Nat.reduceLeDiff, Nat.reduceBEq, Int.reduceLE, Int.reduceToNat, Int.reduceBNe, uu f5b36.eq_1, id @f5r37.eq_1, uu f5b38.eq_1, uu f5b39.eq_1, id @f5r40.eq_1, uu f5b41.eq_1, uu f5b44.eq_1, id @f5r45.eq_1, uu f5b46.eq_1, uu f5b47.eq_1]
    refine ⟨by decide, ?_⟩
    subst hU
    exact l5rest o q cells S hS _ _ rfl rfl (by omega)
end Go.Abs


set_option maxRecDepth 100000
namespace Go.Proofs.YtdanjbnklaaehaaDoor
open Go.Abs Go.RowKit Go.ChangeShapes Go.WideShapes Go.ChangeAt Go.WideMaps Go.WideElems
theorem own : ownKnob Tryd.prog.godebug = none := by kernel_rfl
theorem kids : Kids Tryd.prog (· < Tryd.prog.types.size) := kids_rows (by kernel_rfl) (by kernel_rfl)
theorem full : ∀ t e, t < Tryd.prog.types.size → Tryd.prog.underlying t = some (.slice e) → 0 < Tryd.prog.cellsOf e := slices_full_of Tryd.prog (by kernel_rfl)
def plainTs : List TypeId := [3, 4, 9, 22, 23, 25, 26, 30, 35, 48, 50, 52]
theorem plainTs_ok : plainT Tryd.prog plainTs = true := by kernel_rfl
theorem plainTs_lt : ∀ t ∈ plainTs, t < Tryd.prog.types.size := by
  have : plainTs.all (fun t => decide (t < Tryd.prog.types.size)) = true := by kernel_rfl
  simpa using this
theorem tt : TermTypes Tryd.prog 3 4 9 50 48 52 23 35 22 25 where
  i := Tryd.underlying3
  b := Tryd.underlying4
  s := Tryd.underlying9
  t := ⟨_, Tryd.underlying50, rfl⟩
  lt := ⟨Tryd.underlying48, by kernel_rfl⟩
  r := ⟨_, Tryd.underlying52, rfl⟩
  lr := ⟨Tryd.underlying23, by kernel_rfl⟩
  c := ⟨_, Tryd.underlying35, rfl⟩
  lc := ⟨Tryd.underlying22, by kernel_rfl⟩
  o := ⟨_, Tryd.underlying25, rfl⟩
theorem spec5 (xs : List V) (h : ArgsOf Tryd.prog [25, 3, 26, 26] xs) : Go.Abs.Spec Tryd.prog 5 xs (fun r => r = .bool true) := by
  match xs, h with
  | [a0, a1, a2, a3], ⟨⟨_, _, h0, q0⟩, ⟨_, _, h1, q1⟩, ⟨_, _, h2, q2⟩, ⟨_, _, h3, q3⟩, _⟩ =>
    obtain ⟨x0, e0⟩ := arg_order tt h0
    obtain ⟨x1, e1, _⟩ := arg_int tt.i h1
    obtain ⟨x2, e2⟩ := arg_cells Tryd.underlying26 Tryd.underlying30 rfl tt.b tt.i (by kernel_rfl) h2
    obtain ⟨x3, e3⟩ := arg_cells Tryd.underlying26 Tryd.underlying30 rfl tt.b tt.i (by kernel_rfl) h3
    rw [q0, q1, q2, q3, e0, e1, e2, e3]
    exact l5 x0 x1 x2 x3
abbrev laidN : List (String × DataW Unit) := [("allonge/order.numbers", Rows.laid_allonge_order_numbers)]
theorem gNum : Tryd.prog.globalNamed "allonge/order.numbers" = some 0 := by kernel_rfl
theorem tNum : (Tryd.prog.globals[0]?).map (·.type) = some 63 := by kernel_rfl
theorem door_met (os : Os) (args : Array Value) : laidMetH Tryd.prog laidN ((World.doorLaid Tryd.prog 14 os).forCall (fun _ _ => 0) ⟨#[], args, []⟩).memory :=
  laidMetH_of_parts3 (fuel := 8) (laidMet_of_run' 8 (by kernel_rfl) (by kernel_rfl)) (by kernel_rfl) (by kernel_rfl)
theorem glob_of_laid {W : World} (h : laidMetH Tryd.prog laidN W) : GlobB (Go.Abs.base W) := by
  rw [MakeChecks.laidMetH_plain _ _ _ (by kernel_rfl)] at h
  have hT := Lib.tabIs_of_head (zs := numQ) (k := .i64) gNum tNum Tryd.underlying63 Tryd.underlying3 (by kernel_rfl) (by kernel_rfl) h
  intro g l hg
  unfold globRow at hg
  split at hg
  · rename_i h0
    subst h0
    cases hg
    refine ⟨?_, fun j hj => hT.cell gNum j hj⟩
    have := hT.cell gNum 0 (by decide)
    unfold World.cell? at this
    cases hb : W.heap[0]? with
    | none => rw [hb] at this; simp at this
    | some ob => exact (Array.getElem?_eq_some_iff.1 hb).1
  · cases hg
theorem lifted5 (os : Os) (started : os.Started) (H : Type) (enc : TypeId × Value → H) :
    ReturnsInHanded {} Tryd.checked os 5 .any (fun w args => (Rows.orderNeedsSpec.pre enc Tryd.prog Tryd.f5 [] false w args ∧ laidMetH Tryd.prog laidN w) ∧ sizedMet enc Tryd.prog Tryd.f5 (OpenSpec.ofChange Rows.orderNeedsSpec) false w args)
      (Rows.orderNeedsSpec.post enc Tryd.prog Tryd.f5 false true false false) := by
  refine returnsInHanded_of_change_and (C := Tryd.checked) (X := fun w _ => laidMetH Tryd.prog laidN w) (fun _ _ _ hh h => h.of_heap hh) own started (by kernel_rfl) Tryd.func5
    (ChangeSpec.witness_shaped (enc := enc) (C := Tryd.checked) (os := os) (X := fun w _ => laidMetH Tryd.prog laidN w) false (World.doorLaid Tryd.prog 14 os) #[.agg #[.string ⟨#[]⟩, .bool false, .slice none 0 0, .slice none 0 0], .int .i64 0, .slice none 0 0, .slice none 0 0] 8 rfl (World.shaped_of_RefB (by kernel_rfl) (by kernel_rfl)) (by kernel_rfl) (by kernel_rfl) (by kernel_rfl) (door_met os _)) ?_
  intro W base args ds gs before hval hW _ _ hL _
  refine law_contract (C := Tryd.checked) (T := plainTs) (tb := 4) plainTs_ok plainTs_lt ?_ kids full rfl ?_ ?_ Tryd.underlying4 ?_ W base args ds gs before hval hW (glob_of_laid hL)
  · rw [Tryd.params5]; decide
  · intro ds hds
    rw [Tryd.params5] at hds
    match ds, hds with
    | [a0, a1, a2, a3], _ => rfl
  · kernel_rfl
  · intro xs hxs
    rw [Tryd.params5] at hxs
    exact spec5 xs hxs
theorem OrderNeeds_row : Rows.OrderNeedsSaid :=
  OpenClaim.holds_of_wide 5 Tryd.f5 rfl rfl rfl rfl rfl rfl rfl ⟨rfl, rfl, rfl, rfl, rfl⟩ rfl rfl rfl rfl rfl (by kernel_rfl) Tryd.func5 (by kernel_rfl)
    (of_decide_eq_true (by kernel_rfl)) (by unfold Func.isWrapper; first | (rw [if_pos (by decide +kernel)]; kernel_rfl) | (rw [if_neg (by decide +kernel)]; exact ⟨rfl, rfl⟩))
    (fun os started H enc _ => lifted5 os started H enc)
theorem OrderNeeds_holds : Rows.OrderNeedsCardSaid :=
  Claim7.holds_tied_plain_at .later [] [.widerDeep] true Rows.orderNeedsCard.stood.harness false
    OrderNeeds_row (fun _ h => by cases h) (by kernel_rfl) (fun _ h => by cases h) orderNeeds_row_tie rfl ⟨rfl, rfl⟩ (by kernel_rfl) rfl
    (fun f fn hf hfn => by
      obtain rfl : f = 5 := Option.some.inj ((show Tryd.prog.funcNamed "allonge/allongelaw18.OrderNeeds" = some 5 by kernel_rfl).symm.trans hf) |>.symm
      obtain rfl : fn = Tryd.f5 := (Option.some.inj (Tryd.func5.symm.trans hfn)).symm
      exact ⟨by kernel_rfl, fun j t ht => by
        rw [Tryd.params5] at ht
        have hm : t ∈ [25, 3, 26, 26] := by simpa using Array.mem_of_getElem? ht
        have hall : ([25, 3, 26, 26].all fun u => !Tryd.prog.wantsStandIn u) = true := by kernel_rfl
        exact (show Tryd.prog.wantsStandIn t = false by simpa using List.all_eq_true.1 hall t hm)⟩)
    (by kernel_rfl)
end Go.Proofs.YtdanjbnklaaehaaDoor

