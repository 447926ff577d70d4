/- A part of the proof; the last text states what is proved. -/
import Derived.Test.YtdanjbnklaaehaaDoorP5
import Derived.Test.YtdanjbnklaaehaaDoorRows
import Derived.Test.YtdanjbnklaaehaaDoorCards
import Derived.Test.YtdanjbnklaaehaaDoorTie
import Derived.ProofKit
import Derived.DataShut
import Derived.LaidMore
import Derived.Lib.LaidTab
import Derived.OpenShut
import Derived.SevenTiedAt
set_option linter.unusedVariables false
set_option linter.unusedSimpArgs false
set_option maxRecDepth 100000
set_option maxHeartbeats 4000000
namespace Go.Abs
open Go.Proofs
def choiceF : List Choice → Int → Choice
  | [], q => ⟨q, 0, false⟩
  | c :: l, q => if c.ask = q then c else choiceF l q
theorem choiceF_drop {l : List Choice} {i : Nat} (h : i < l.length) (q : Int) : choiceF (l.drop i) q = if l[i].ask = q then l[i] else choiceF (l.drop (i + 1)) q := by
  rw [List.drop_eq_getElem_cons h, choiceF]
def choiceV (o : Order) (q : Int) : V := if q < 0 ∨ q ≥ 22 then .tup [.agg [.int .i64 0, .int .i64 0, .bool false], .int .i64 1] else .tup [.agg (encChoice (choiceF o.choices q)), .int .i64 0]
theorem o12 (o : Order) (q : Int) : Spec Tryd.prog 12 [.agg (encOrder o), .int .i64 q] (fun r => r = choiceV o q) := by
  refine Spec.of_len hf12 fun hlen => ?_
  have hl := (len_rules (o := o) List.mem_cons_self hlen).1
  clear hlen
  refine Spec.of_awlS hf12 okf12 (by simp) fun S hS => ?_
  simp only [Qs, bne_iff_ne, ne_eq, Nat.reduceAdd, Nat.reduceEqDiff, Nat.reduceBEq, uu f12.eq_1, id @f12r23.eq_1, uu f12b24.eq_1, uu f12b25.eq_1, id @f12r26.eq_1, uu f12b27.eq_1]
  refine call_s (o30 q) ?_
  by_cases hq : q < 0 ∨ q ≥ 22
  · have hn : ¬ (0 ≤ q ∧ q < 22) := by omega
    rw [choiceV, if_pos hq] at hS
    simp only [hn, Qs, if_true, List.append_nil, List.nodup_nil, Nat.reduceAdd, Nat.reduceLT, Nat.reduceBEq, id @f12r20.eq_1, uu f12b21.eq_1, uu f12b22.eq_1]
    exact hS
  have hy : (0 ≤ q ∧ q < 22) := by omega
  rw [choiceV, if_neg hq] at hS
  simp only [hy, Qs, uu f12b16.eq_1, id @f12r17.eq_1, uu f12b18.eq_1, uu f12b19.eq_1, uu f12b22.eq_1]
  rw [uf12l15]
  refine awl_loop (fun i : Nat => [(1, .int .i64 q), (2, .k (.ptr 2 0)), (4, .k (.ptr 4 0)), (6, .int .i64 i)]) (fun _ => [(2, .var 25 ((encOrder o).map .c)), (4, .var 35 [.c (.int .i64 0), .c (.int .i64 0), .c (.bool false)])])
    (fun i => i ≤ o.choices.length ∧ choiceF (o.choices.drop i) q = choiceF o.choices q) (fun i => o.choices.length - i) 0 rfl rfl ⟨Nat.zero_le _, rfl⟩ ?_
  rintro i ⟨hi, hj⟩
  by_cases hlt : i < o.choices.length
  · have c1 : (i : Int) < o.choices.length := by omega
    have c4 : IntKind.i64.wrap ((i : Int) + 1) = (i : Int) + 1 := wrap_in (by omega) (by omega)
    rw [choiceF_drop hlt] at hj
    simp only [c1, c4, map_at hlt, Qs, if_true, List.append_nil, List.nodup_nil, Nat.reduceAdd, Nat.reduceLeDiff, Nat.reduceLT, Nat.reduceBEq, encChoice_norm, List.length_map, encChoice_len, g_ch0, f_or2, id @f12r3.eq_1, id @f12r4.eq_1, uu f12b5.eq_1, uu f12b6.eq_1, id @f12r7.eq_1, uu f12b8.eq_1, uu f12b9.eq_1, uu f12b10.eq_1, uu f12b11.eq_1, id @f12r12.eq_1, uu f12b13.eq_1, uu f12b14.eq_1]
    refine ⟨fun h => ?_, fun h => ?_⟩
    · rw [if_pos h] at hj
      exact fin hS (by rw [← hj])
    · rw [if_neg h] at hj
      exact Next.intro (i + 1) rfl rfl ⟨by omega, hj⟩ (by omega)
  · have c1 : ¬ (i : Int) < o.choices.length := by omega
    simp only [c1, Qs, if_true, List.append_nil, List.nodup_nil, Nat.reduceAdd, Nat.reduceLeDiff, Nat.reduceLT, Nat.reduceBEq, List.length_map, f_or2, id @f12r1.eq_1, uu f12b2.eq_1, uu f12b11.eq_1, id @f12r12.eq_1, uu f12b13.eq_1, uu f12b14.eq_1]
    rw [List.drop_eq_nil_of_le (by omega), choiceF] at hj
    exact fin hS (by rw [← hj]; rfl)
theorem o11 (o : Order) (q : Int) : Spec Tryd.prog 11 [.agg (encOrder o), .int .i64 q] (fun r => r = choiceV o q) := by
  refine Spec.of_len hf11 fun hlen => ?_
  have hl := (len_rules (o := o) List.mem_cons_self hlen).1
  clear hlen
  refine Spec.of_awlS hf11 okf11 (by simp) fun S hS => ?_
  simp only [Qs, bne_iff_ne, ne_eq, Nat.reduceAdd, Nat.reduceEqDiff, Nat.reduceBEq, uu f11.eq_1, id @f11r27.eq_1, uu f11b28.eq_1, uu f11b29.eq_1, id @f11r30.eq_1, uu f11b31.eq_1]
  have c13 := o13 q
  by_cases hq : q < 0 ∨ q ≥ 22
  · rw [typeQ, if_pos hq] at c13
    rw [choiceV, if_pos hq] at hS
    refine call_s c13 ?_
    simp only [Qs, if_true, List.append_nil, List.nodup_nil, Nat.reduceAdd, Nat.reduceLT, Nat.reduceBEq, id @f11r22.eq_1, uu f11b23.eq_1, uu f11b24.eq_1, id @f11r25.eq_1, uu f11b26.eq_1]
    exact hS
  rw [typeQ_ok hq] at c13
  rw [choiceV, if_neg hq] at hS
  refine call_s c13 ?_
  simp only [Qs, Nat.reduceAdd, Nat.reduceLeDiff, Nat.reduceBEq, List.length_map, f_or2, uu f11b18.eq_1, id @f11r19.eq_1, uu f11b20.eq_1, uu f11b21.eq_1, uu f11b24.eq_1, id @f11r25.eq_1, uu f11b26.eq_1]
  rw [uf11l17]
  refine awl_loop (fun i : Nat => [(1, .int .i64 q), (4, .k (.ptr 4 0)), (19, lst 3 (o.choices.map encChoice)), (20, .int .i64 o.choices.length), (21, .int .i64 i)]) (fun _ => [(4, .var 35 [.c (.int .i64 0), .c (.int .i64 0), .c (.bool false)])])
    (fun i => i ≤ o.choices.length ∧ choiceF (o.choices.drop i) q = choiceF o.choices q) (fun i => o.choices.length - i) 0 rfl rfl ⟨Nat.zero_le _, rfl⟩ ?_
  rintro i ⟨hi, hj⟩
  by_cases hlt : i < o.choices.length
  · have c1 : (i : Int) < o.choices.length := by omega
    have c4 : IntKind.i64.wrap ((i : Int) + 1) = (i : Int) + 1 := wrap_in (by omega) (by omega)
    rw [choiceF_drop hlt] at hj
    simp only [c1, c4, map_at hlt, Qs, if_true, bne_iff_ne, ne_eq, List.append_nil, List.nodup_nil, Nat.reduceAdd, Nat.reduceEqDiff, Nat.reduceLeDiff, Nat.reduceLT, Nat.reduceBEq, encChoice_norm, List.length_map, encChoice_len, f_ch0, id @f11r3.eq_1, id @f11r4.eq_1, uu f11b5.eq_1, uu f11b6.eq_1, id @f11r7.eq_1, uu f11b8.eq_1, id @f11r9.eq_1, uu f11b10.eq_1, uu f11b11.eq_1, uu f11b12.eq_1, uu f11b13.eq_1, uu f11b14.eq_1, id @f11r15.eq_1, uu f11b16.eq_1]
    by_cases h : o.choices[i].ask = q
    · rw [if_pos h] at hj
      simp only [encChoice, h, Qs, forall_const, BEq.rfl]
      exact fin hS (by rw [← hj, encChoice, h])
    · rw [if_neg h] at hj
      simp only [encChoice, h, c4, Qs, forall_const]
      exact Next.intro (i + 1) rfl rfl ⟨by omega, hj⟩ (by omega)
  · have c1 : ¬ (i : Int) < o.choices.length := by omega
    simp only [c1, Qs, if_true, List.append_nil, List.nodup_nil, Nat.reduceAdd, Nat.reduceLeDiff, Nat.reduceLT, Nat.reduceBEq, id @f11r1.eq_1, uu f11b2.eq_1, uu f11b13.eq_1, uu f11b14.eq_1, id @f11r15.eq_1, uu f11b16.eq_1]
    rw [List.drop_eq_nil_of_le (by omega), choiceF] at hj
    exact fin hS (by rw [← hj]; rfl)
def few18 (o : Order) : Bool := if o.rules.length > 60 ∨ o.choices.length > 60 then false else fewR o.rules
theorem o8 (o : Order) : Spec Tryd.prog 8 [.agg (encOrder o)] (fun r => r = .bool (few18 o)) := by
  refine Spec.of_len hf8 fun hlen => ?_
  have hl := (len_rules (o := o) List.mem_cons_self hlen).2
  clear hlen
  refine Spec.of_awlS hf8 okf8 (by simp) fun S hS => ?_
  by_cases h1 : (o.rules.length : Int) > 60
  · simp only [h1, Qs, if_true, List.nodup_nil, Nat.reduceAdd, Nat.reduceBEq, List.length_map, uu f8.eq_1, id @f8r20.eq_1, uu f8b21.eq_1, uu f8b22.eq_1, id @f8r23.eq_1, uu f8b24.eq_1, uu f8b25.eq_1, id @f8r26.eq_1, uu f8b27.eq_1]
    exact fin hS (by rw [few18, if_pos (.inl (by omega))])
  by_cases h2 : (o.choices.length : Int) > 60
  · simp only [h1, h2, Qs, if_true, if_false, List.nodup_nil, Nat.reduceAdd, Nat.reduceLeDiff, Nat.reduceBEq, List.length_map, f_or2, uu f8.eq_1, id @f8r20.eq_1, uu f8b21.eq_1, uu f8b22.eq_1, id @f8r23.eq_1, uu f8b24.eq_1, uu f8b25.eq_1, id @f8r26.eq_1, uu f8b27.eq_1]
    exact fin hS (by rw [few18, if_pos (.inr (by omega))])
  rw [few18, if_neg (by omega)] at hS
  simp only [h1, h2, Qs, if_true, if_false, Nat.reduceAdd, Nat.reduceLeDiff, Nat.reduceBEq, List.length_map, f_or2, uu f8.eq_1, uu f8b16.eq_1, id @f8r17.eq_1, uu f8b18.eq_1, uu f8b19.eq_1, uu f8b22.eq_1, id @f8r23.eq_1, uu f8b24.eq_1, uu f8b25.eq_1, id @f8r26.eq_1, uu f8b27.eq_1]
  rw [uf8l15]
  refine awl_loop (fun i : Nat => [(1, .k (.ptr 1 0)), (3, .int .i64 i)]) (fun _ => [(1, .var 25 ((encOrder o).map .c))])
    (fun i => i ≤ o.rules.length ∧ fewR (o.rules.drop i) = fewR o.rules) (fun i => o.rules.length - i) 0 rfl rfl ⟨Nat.zero_le _, rfl⟩ ?_
  rintro i ⟨hi, hj⟩
  by_cases hlt : i < o.rules.length
  · have c1 : (i : Int) < o.rules.length := by omega
    have c4 : IntKind.i64.wrap ((i : Int) + 1) = (i : Int) + 1 := wrap_in (by omega) (by omega)
    rw [fewR_drop hlt] at hj
    simp only [c1, c4, map_at hlt, Qs, if_true, if_false, Nat.reduceAdd, Nat.reduceEqDiff, Nat.reduceBEq, List.length_map, g_rule1, id @f8r3.eq_1, id @f8r7.eq_1, uu f8b8.eq_1, uu f8b9.eq_1, uu f8b10.eq_1, uu f8b11.eq_1, id @f8r12.eq_1, uu f8b13.eq_1, uu f8b14.eq_1]
    refine call_s (s30 o.rules[i].term) ?_
    cases h : few o.rules[i].term
    · rw [if_pos h] at hj
      simp only [h, Qs, List.nodup_nil, id @f8r4.eq_1, uu f8b5.eq_1, uu f8b6.eq_1]
      exact fin hS (by rw [← hj])
    · rw [if_neg (by simp [h])] at hj
      simp only [h, c4, Qs, if_true, Nat.reduceBEq, uu f8b6.eq_1]
      exact Next.intro (i + 1) rfl rfl ⟨by omega, hj⟩ (by omega)
  · have c1 : ¬ (i : Int) < o.rules.length := by omega
    simp only [c1, Qs, if_true, List.nodup_nil, Nat.reduceAdd, Nat.reduceBEq, List.length_map, id @f8r1.eq_1, uu f8b2.eq_1, uu f8b11.eq_1, id @f8r12.eq_1, uu f8b13.eq_1, uu f8b14.eq_1]
    rw [List.drop_eq_nil_of_le (by omega), fewR] at hj
    exact fin hS (by rw [← hj])
def moreF (a b : List Cell) (i : Nat) : Cell := if i < a.length ∧ ((a.getD i zC).known = true ∨ b.length ≤ i) then a.getD i zC else b.getD i zC
def moreL (a b : List Cell) (n : Nat) : List Cell := (List.range n).map (moreF a b)
theorem moreL_succ (a b : List Cell) (n : Nat) : moreL a b (n + 1) = moreL a b n ++ [moreF a b n] := by simp [moreL, List.range_succ]
theorem moreL_len (a b : List Cell) (n : Nat) : (moreL a b n).length = n := by simp [moreL]
def nlN (n : Nat) : Option Bool := if n = 0 then some true else some false
theorem o20 (a b : List Cell) (ha : a.length ≤ 100) (hb : b.length ≤ 100) : Spec Tryd.prog 20 [lst 2 (a.map encCell), lst 2 (b.map encCell)] (fun r => r = .k (.newl 30 2 none ((moreL a b (max a.length b.length)).map encCell))) := by
  refine Spec.of_awlS hf20 okf20 (by simp) fun S hS => ?_
  simp only [Qs, bne_iff_ne, ne_eq, Nat.reduceAdd, Nat.reduceEqDiff, Nat.reduceBEq, uu f20.eq_1, uu f20b16.eq_1, id @f20r17.eq_1, uu f20b18.eq_1, uu f20b19.eq_1, id @f20r20.eq_1, uu f20b21.eq_1, id @f20r22.eq_1, uu f20b23.eq_1]
  rw [uf20l15]
  refine awl_loop (fun i : Nat => [(0, lst 2 (a.map encCell)), (1, lst 2 (b.map encCell)), (5, .k (.own 5)), (6, .int .i64 i)]) (fun i => [(5, .arr 30 2 (nlN i) ((moreL a b i).map encCell))])
    (fun i => i ≤ max a.length b.length) (fun i => max a.length b.length - i) 0 rfl rfl (Nat.zero_le _) ?_
  intro i hi
  have c4 : IntKind.i64.wrap ((i : Int) + 1) = (i : Int) + 1 := wrap_in (by omega) (by omega)
  have hsn := moreL_succ a b i
  have hln := moreL_len a b i
  have hap : nlApp (nlN i) [encCell (moreF a b i)] = nlN (i + 1) := rfl
  by_cases hia : i < a.length
  · have c1 : (i : Int) < a.length := by omega
    have hga : a.getD i zC = a[i] := by simp [hia]
    obtain ⟨xk, xn, hx⟩ : ∃ p n, a[i] = Cell.mk p n := ⟨_, _, rfl⟩
    rw [hx] at hga
    cases xk
    · by_cases hib : i < b.length
      · have d1 : (i : Int) < b.length := by omega
        have d2 : ¬ (i : Int) ≥ b.length := by omega
        have hmf : moreF a b i = b[i] := by rw [moreF, hga, if_neg (by simp; omega)]; simp [hib]
        rw [hmf] at hsn
        simp only [c1, c4, d1, d2, hx, map_at hia, map_at hib, encCell_len, encCell, List.length_map, Qs, q_V_noRef_eq_5, q_V_scrub_eq_4, if_true, if_false, forall_eq, bne_iff_ne, ne_eq, List.mem_cons, Nat.reduceAdd, Nat.reduceEqDiff, Nat.reduceLeDiff, Nat.reduceLT, Nat.reduceBEq, List.length_map, List.not_mem_nil, id @f20r3.eq_1, id @f20r4.eq_1, id @f20r5.eq_1, uu f20b6.eq_1, id @f20r7.eq_1, uu f20b8.eq_1, uu f20b9.eq_1, uu f20b10.eq_1, uu f20b11.eq_1, id @f20r12.eq_1, uu f20b13.eq_1, uu f20b14.eq_1]
        refine ⟨by simp [hln]; omega, by simp [hln]; omega, Next.intro (i + 1) rfl ?_ (by omega) (by omega)⟩
        rw [hsn, List.map_append]; rfl
      · have d1 : ¬ (i : Int) < b.length := by omega
        have d2 : (i : Int) ≥ b.length := by omega
        have hmf : moreF a b i = ⟨false, xn⟩ := by rw [moreF, hga, if_pos (by simp; omega)]
        rw [hmf] at hsn
        simp only [c1, c4, d1, d2, hx, map_at hia, encCell_len, encCell, List.length_map, Qs, q_V_noRef_eq_5, q_V_scrub_eq_4, if_true, if_false, forall_eq, bne_iff_ne, ne_eq, List.mem_cons, Nat.reduceAdd, Nat.reduceEqDiff, Nat.reduceLeDiff, Nat.reduceLT, Nat.reduceBEq, List.length_map, List.not_mem_nil, id @f20r3.eq_1, id @f20r4.eq_1, id @f20r5.eq_1, uu f20b6.eq_1, id @f20r7.eq_1, uu f20b8.eq_1, uu f20b9.eq_1, uu f20b10.eq_1, uu f20b11.eq_1, id @f20r12.eq_1, uu f20b13.eq_1, uu f20b14.eq_1]
        refine ⟨by simp [hln]; omega, by simp [hln]; omega, Next.intro (i + 1) rfl ?_ (by omega) (by omega)⟩
        rw [hsn, List.map_append]; rfl
    · have hmf : moreF a b i = ⟨true, xn⟩ := by rw [moreF, hga, if_pos (by simp; omega)]
      rw [hmf] at hsn
      simp only [c1, c4, hx, map_at hia, encCell_len, encCell, List.length_map, Qs, q_V_noRef_eq_5, q_V_scrub_eq_4, if_true, if_false, forall_eq, bne_iff_ne, ne_eq, List.mem_cons, Nat.reduceAdd, Nat.reduceEqDiff, Nat.reduceLeDiff, Nat.reduceLT, Nat.reduceBEq, List.length_map, List.not_mem_nil, id @f20r3.eq_1, id @f20r4.eq_1, id @f20r5.eq_1, uu f20b6.eq_1, id @f20r7.eq_1, uu f20b8.eq_1, uu f20b9.eq_1, uu f20b10.eq_1, uu f20b11.eq_1, id @f20r12.eq_1, uu f20b13.eq_1, uu f20b14.eq_1]
      refine ⟨by simp [hln]; omega, by simp [hln]; omega, Next.intro (i + 1) rfl ?_ (by omega) (by omega)⟩
      rw [hsn, List.map_append]; rfl
  · have c1 : ¬ (i : Int) < a.length := by omega
    by_cases hib : i < b.length
    · have d1 : (i : Int) < b.length := by omega
      have hmf : moreF a b i = b[i] := by rw [moreF, if_neg (by omega)]; simp [hib]
      rw [hmf] at hsn
      simp only [c1, c4, d1, map_at hib, encCell_len, encCell, List.length_map, Qs, q_V_noRef_eq_5, q_V_scrub_eq_4, if_true, if_false, forall_eq, bne_iff_ne, ne_eq, List.mem_cons, Nat.reduceAdd, Nat.reduceEqDiff, Nat.reduceLeDiff, Nat.reduceLT, Nat.reduceBEq, q_guardP_eq_3, List.length_map, List.not_mem_nil, id @f20r3.eq_1, id @f20r4.eq_1, id @f20r5.eq_1, uu f20b6.eq_1, id @f20r7.eq_1, uu f20b8.eq_1, uu f20b9.eq_1, uu f20b10.eq_1, uu f20b11.eq_1, id @f20r12.eq_1, uu f20b13.eq_1, uu f20b14.eq_1]
      refine ⟨by simp [hln]; omega, by simp [hln]; omega, Next.intro (i + 1) rfl ?_ (by omega) (by omega)⟩
      rw [hsn, List.map_append]; rfl
    · have d1 : ¬ (i : Int) < b.length := by omega
      have : i = max a.length b.length := by omega
      rw [← this] at hS
      simp only [c1, d1, List.length_map, Qs, if_true, if_false, List.nodup_nil, List.nodup_cons, Nat.reduceBEq, List.length_map, List.not_mem_nil, id @f20r1.eq_1, uu f20b2.eq_1, uu f20b11.eq_1, id @f20r12.eq_1, uu f20b13.eq_1, uu f20b14.eq_1]
      exact hS
end Go.Abs


set_option maxRecDepth 100000
set_option maxHeartbeats 4000000
namespace Go.Abs
open Go.Proofs
end Go.Abs


set_option maxRecDepth 100000
namespace Go.Abs
open Go.Proofs
theorem s22 (a b : List Int) : Spec Tryd.prog 15 [lst 1 (ints a), lst 1 (ints b)] (fun r => r = .bool (decide (a = b))) := by
  refine Spec.of_len hf15 fun hlen => ?_
  have hla : a.length ≤ 9223372036854775807 := by have := hlen _ (List.mem_cons_self) (lstC 1 (ints a)) (by simp [lst, V.topC]) _ _ _ rfl; simpa [ints] using this
  clear hlen
  refine Spec.of_awl hf15 okf15 (by simp) ?_
  simp only [lst, lstC, ints_len, Qs, q_vLen_eq_1, if_true, List.nodup_nil, Nat.reduceAdd, Nat.reduceBEq, uu f15.eq_1, uu f15b16.eq_1, id @f15r17.eq_1, uu f15b18.eq_1, uu f15b19.eq_1, id @f15r20.eq_1, uu f15b21.eq_1, uu f15b22.eq_1, id @f15r23.eq_1, uu f15b24.eq_1, uu f15b25.eq_1, id @f15r26.eq_1, uu f15b27.eq_1]
  refine ⟨fun h => ?_, fun h => ?_⟩
  · have : a ≠ b := by rintro rfl; exact h rfl
    simp [this]
  · rw [uf15l15]
    have h : a.length = b.length := by omega
    refine awl_loop (fun i : Nat => [(0, lst 1 (ints a)), (1, lst 1 (ints b)), (5, .int .i64 i)]) (fun _ => []) (fun i => i ≤ a.length ∧ ∀ j < i, a[j]? = b[j]?) (fun i => a.length - i) 0 rfl rfl ⟨Nat.zero_le _, by simp⟩ ?_
    rintro i ⟨hi, hj⟩
    by_cases hlt : i < a.length
    · have hlt2 : i < b.length := by omega
      have c1 : (i : Int) < a.length := by omega
      have c2 : (i : Int) < b.length := by omega
      have hw : IntKind.i64.wrap ((i : Int) + 1) = (i : Int) + 1 := wrap_in (by omega) (by omega)
      simp only [lst, lstC, ints_len, ints_isEmpty, ints_at hlt, ints_at hlt2, sz_of hlt, sz_of hlt2, c1, c2, hw, not_true_eq_false, Qs, q_exLQ_eq_12, q_vLen_eq_1, q_vIaddr_eq_1, if_true, List.nodup_nil, Nat.reduceBEq, id @f15r3.eq_1, id @f15r4.eq_1, uu f15b5.eq_1, uu f15b6.eq_1, id @f15r7.eq_1, uu f15b8.eq_1, uu f15b9.eq_1, uu f15b10.eq_1, uu f15b11.eq_1, id @f15r12.eq_1, uu f15b13.eq_1, uu f15b14.eq_1]
      refine ⟨fun hne => ?_, fun he => ?_⟩
      · have : a ≠ b := by rintro rfl; exact hne rfl
        simp [this]
      · refine Next.intro (i + 1) rfl rfl ⟨by omega, fun j hjl => ?_⟩ (by omega)
        by_cases hji : j = i
        · subst hji; simp [hlt, hlt2, he]
        · exact hj j (by omega)
    · have c1 : ¬ (i : Int) < a.length := by omega
      simp only [lst, lstC, ints_len, ints_isEmpty, c1, not_true_eq_false, not_false_eq_true, Qs, q_vLen_eq_1, if_true, List.nodup_nil, Nat.reduceBEq, id @f15r1.eq_1, uu f15b2.eq_1, uu f15b11.eq_1, id @f15r12.eq_1, uu f15b13.eq_1, uu f15b14.eq_1]
      have : a = b := by
        refine List.ext_getElem? fun j => ?_
        by_cases hjl : j < i
        · exact hj j hjl
        · rw [List.getElem?_eq_none (by omega), List.getElem?_eq_none (by omega)]
      simp [this]
end Go.Abs


set_option maxRecDepth 100000
set_option maxHeartbeats 4000000
namespace Go.Abs
open Go.Proofs
def oA : Order := ⟨[], false, [], [⟨0, .mk 2 7 []⟩, ⟨6, .mk 0 3 []⟩]⟩
def oB : Order := ⟨[], false, [], [⟨0, .mk 2 15 []⟩]⟩
def oC : Order := ⟨[], false, [], [⟨0, .mk 0 3 []⟩]⟩
theorem p1 : ordersO [oA, oC, oB] 0 = (1, 11) := by decide
theorem p2 : ordersO [oA, oB] 0 = (-1, 0) := by decide
theorem s22' (l : List Int) : Spec Tryd.prog 15 [lst 1 (ints l), lst 1 (ints l)] (fun r => r = .bool true) := by
  have := s22 l l
  simpa using this
end Go.Abs


set_option maxRecDepth 100000
set_option maxHeartbeats 4000000
namespace Go.Abs
open Go.Proofs
def exO : Order := ⟨[], false, [⟨6, 2, false⟩], [⟨2, .mk 4 0 [.mk 2 15 [], .mk 2 17 []]⟩, ⟨6, .mk 6 0 [.mk 2 10 [], .mk 0 0 [], .mk 0 30000 []]⟩]⟩
theorem o22 : Spec Tryd.prog 22 [] (fun r => r = .agg (encOrder exO)) := by
  refine Spec.of_awlP hf22 okf22 (by simp) fun S hS => ?_
  simp only [Qs, q_V_cells_eq_3, q_V_noRef_eq_3, q_C_norm_eq_6, q_Option_map_none, q_List_set_cons_succ, q_List_isEmpty_cons, if_true, if_false, reduceCtorEq, forall_eq_or_imp, forall_eq, bne_iff_ne, ne_eq, List.append_nil, List.mem_cons, List.nodup_nil, Nat.reduceAdd, Nat.reduceEqDiff, Nat.reduceLeDiff, Nat.reduceLT, Nat.reduceBEq, Nat.zero_ne_one, List.not_mem_nil, z_V_k, z_V_agg, z_K_c, z_O_var, z_O_arr, z_frzT, z_frzO, q_awl_eq_14, z_agF1, z_agF2, z_V_agk, z_K_own_arr, z_K_ptr_arr, uu f22.eq_1, id @f22r1.eq_1, uu f22b2.eq_1, id @f22r3.eq_1, uu f22b4.eq_1, id @f22r5.eq_1, uu f22b6.eq_1, id @f22r7.eq_1, uu f22b8.eq_1, id @f22r9.eq_1, uu f22b10.eq_1, id @f22r11.eq_1, uu f22b12.eq_1, id @f22r13.eq_1, uu f22b14.eq_1]
  exact hS _ rfl
theorem o23 (k : Nat) (x : Int) (hk : k < 20) : Spec Tryd.prog 23 [.int .i64 k, .int .i64 x] (fun r => r = .k (.newl 30 2 none ((oneK k x).map encCell))) := by
  refine Spec.of_awlS hf23 okf23 (by simp) fun S hS => ?_
  have h1 : (0 : Int) ≤ k := by omega
  have h2 : (k : Int) < 20 := by omega
  simp only [h1, h2, Qs, q_exL_eq_18, q_stArrK_eq_1, q_storeK_eq_2, q_mkslK_eq_1, if_true, bne_iff_ne, ne_eq, List.append_nil, List.nodup_nil, List.nodup_cons, Nat.reduceAdd, Nat.reduceEqDiff, Nat.reduceLeDiff, Nat.reduceBEq, Int.reduceLE, Int.reduceToNat, List.not_mem_nil, uu f23.eq_1, id @f23r1.eq_1, uu f23b2.eq_1, id @f23r3.eq_1, uu f23b4.eq_1, id @f23r5.eq_1, uu f23b6.eq_1, id @f23r7.eq_1, uu f23b8.eq_1]
  refine ⟨by decide, fin hS ?_⟩
  rw [show (List.map encCell (oneK k x)) = C.normRows (List.map encCell (oneK k x)) from (normRows_Ce _).symm, oneK, List.map_set]
  rfl
theorem e1 : answerV exO 2 (oneK 15 0) = .tup [.agg [.bool true, .int .i64 0], .int .i64 0] := by kernel_rfl
theorem e2 : answerV exO 2 (oneK 15 1) = .tup [.agg [.bool false, .int .i64 0], .int .i64 0] := by kernel_rfl
theorem e3 : answerV exO 6 (oneK 10 0) = .tup [.agg [.bool true, .int .i64 20000], .int .i64 0] := by kernel_rfl
theorem e4 : answerV exO 6 (oneK 10 1) = .tup [.agg [.bool true, .int .i64 0], .int .i64 0] := by kernel_rfl
theorem e5 : answerV exO 0 [] = .tup [.agg [.bool false, .int .i64 0], .int .i64 4] := by kernel_rfl
theorem e6 : answerV exO 22 [] = .tup [.agg [.bool false, .int .i64 0], .int .i64 1] := by kernel_rfl
theorem e7 : choiceV exO 6 = .tup [.agg [.int .i64 6, .int .i64 2, .bool false], .int .i64 0] := by kernel_rfl
theorem e8 : choiceV exO 2 = .tup [.agg [.int .i64 2, .int .i64 0, .bool false], .int .i64 0] := by kernel_rfl
theorem e9 : needsO exO 2 (oneK 15 1) = [17] := by kernel_rfl
theorem e10 : usesQ exO 6 = [10] := by kernel_rfl
theorem e11 : needsO exO 2 (oneK 15 0) = [] := by kernel_rfl
theorem o7 : Spec Tryd.prog 7 [] (fun r => r = .bool true) := by
  have c1 := o9 exO 2 (oneK 15 0)
  rw [e1] at c1
  have c2 := o9 exO 2 (oneK 15 1)
  rw [e2] at c2
  have c3 := o9 exO 6 (oneK 10 0)
  rw [e3] at c3
  have c4 := o9 exO 6 (oneK 10 1)
  rw [e4] at c4
  have c5 := o9 exO 0 []
  rw [e5] at c5
  have c6 := o9 exO 22 []
  rw [e6] at c6
  have c7 := o11 exO 6
  rw [e7] at c7
  have c8 := o11 exO 2
  rw [e8] at c8
  have c9 := o16 exO 2 (oneK 15 1)
  rw [e9] at c9
  have c10 := o18 exO 6
  rw [e10] at c10
  have c11 := o16 exO 2 (oneK 15 0)
  rw [e11] at c11
  refine Spec.of_awlS hf7 okf7 (by simp) fun S hS => ?_
  simp only [Qs, uu f7.eq_1, id @f7r37.eq_1, uu f7b38.eq_1, id @f7r39.eq_1, uu f7b40.eq_1]
  refine call_r o22 ?_ (ha := by rfl)
  simp only [Qs, q_exLQ_eq_4, bne_iff_ne, ne_eq, List.append_nil, Nat.reduceAdd, Nat.reduceMul, Nat.reduceEqDiff, Nat.reduceBEq, List.length_map, id @f7r35o0.eq_1, id @f7r35o1.eq_1, id @f7r35o2.eq_1, id @f7r35o3.eq_1, id @f7r35o4.eq_1, id @f7r35o5.eq_1, id @f7r35o6.eq_1, id @f7r35o7.eq_1, id @f7r35o8.eq_1, utf7r35, uu f7b36.eq_1]
  refine callQ_l (o23 15 0 (by decide)) ?_ (ha := by rfl)
  simp only [Qs, Nat.reduceBEq]
  refine callQ_l c1 ?_ (ha := by rfl)
  simp only [Qs, q_exLQ_eq_4, q_exLQ_eq_28, q_V_fz_eq_4, q_V_fzL_eq_1, q_V_fzL_eq_2, bne_iff_ne, ne_eq, List.append_nil, Nat.reduceAdd, Nat.reduceEqDiff, Nat.reduceBEq, List.length_map, id @f7r33o0.eq_1, id @f7r33o1.eq_1, id @f7r33o2.eq_1, id @f7r33o3.eq_1, id @f7r33o4.eq_1, id @f7r33o5.eq_1, id @f7r33o6.eq_1, id @f7r33o7.eq_1, id @f7r33o8.eq_1, utf7r33, uu f7b34.eq_1]
  refine callQ_l (o23 15 1 (by decide)) ?_ (ha := by rfl)
  simp only [Qs, Nat.reduceBEq]
  refine callQ_l c2 ?_ (ha := by rfl)
  simp only [Qs, q_exLQ_eq_4, q_exLQ_eq_28, q_V_fz_eq_4, q_V_fzL_eq_1, q_V_fzL_eq_2, bne_iff_ne, ne_eq, List.append_nil, Nat.reduceAdd, Nat.reduceEqDiff, Nat.reduceBEq, List.length_map, id @f7r31o0.eq_1, id @f7r31o1.eq_1, id @f7r31o2.eq_1, id @f7r31o3.eq_1, id @f7r31o4.eq_1, id @f7r31o5.eq_1, id @f7r31o6.eq_1, id @f7r31o7.eq_1, id @f7r31o8.eq_1, utf7r31, uu f7b32.eq_1]
  refine callQ_l (o23 10 0 (by decide)) ?_ (ha := by rfl)
  simp only [Qs, Nat.reduceBEq]
  refine callQ_l c3 ?_ (ha := by rfl)
  simp only [Qs, q_exLQ_eq_4, q_exLQ_eq_28, q_V_fz_eq_4, q_V_fzL_eq_1, q_V_fzL_eq_2, bne_iff_ne, ne_eq, List.append_nil, Nat.reduceAdd, Nat.reduceEqDiff, Nat.reduceBEq, List.length_map, id @f7r29o0.eq_1, id @f7r29o1.eq_1, id @f7r29o2.eq_1, id @f7r29o3.eq_1, id @f7r29o4.eq_1, id @f7r29o5.eq_1, id @f7r29o6.eq_1, id @f7r29o7.eq_1, id @f7r29o8.eq_1, utf7r29, uu f7b30.eq_1]
  refine callQ_l (o23 10 1 (by decide)) ?_ (ha := by rfl)
  simp only [Qs, Nat.reduceBEq]
  refine callQ_l c4 ?_ (ha := by rfl)
  simp only [Qs, q_exLQ_eq_28, q_V_fz_eq_4, q_V_fzL_eq_1, q_V_fzL_eq_2, List.append_nil, Nat.reduceAdd, Nat.reduceBEq, List.length_map, id @f7r27.eq_1, uu f7b28.eq_1]
  refine call_r c5 ?_ (ha := by rfl)
  simp only [Qs, bne_iff_ne, ne_eq, List.append_nil, Nat.reduceAdd, Nat.reduceMul, Nat.reduceEqDiff, Nat.reduceBEq, List.length_map, id @f7r25.eq_1, uu f7b26.eq_1]
  refine call_r c6 ?_ (ha := by rfl)
  simp only [Qs, bne_iff_ne, ne_eq, List.append_nil, Nat.reduceAdd, Nat.reduceMul, Nat.reduceEqDiff, Nat.reduceBEq, List.length_map, id @f7r23.eq_1, uu f7b24.eq_1]
  refine call_r c7 ?_ (ha := by rfl)
  simp only [Qs, bne_iff_ne, ne_eq, List.append_nil, Nat.reduceAdd, Nat.reduceMul, Nat.reduceEqDiff, Nat.reduceBEq, List.length_map, id @f7r21.eq_1, uu f7b22.eq_1]
  refine call_r c8 ?_ (ha := by rfl)
  simp only [Qs, q_AOp_dst_eq_6, q_exL_eq_13, q_eqRow_eq_1, q_eqRow_eq_2, q_eqC_eq_1, q_eqC_eq_2, if_true, if_false, bne_iff_ne, ne_eq, BEq.rfl, List.append_nil, Nat.reduceAdd, Nat.reduceMul, Nat.reduceEqDiff, Nat.reduceLeDiff, Nat.reduceBEq, List.length_map, Int.reduceBNe, Option.bind_some, id @f7r5.eq_1, uu f7b6.eq_1, uu f7b9.eq_1, id @f7r10.eq_1, uu f7b11.eq_1, uu f7b12.eq_1, uu f7b15.eq_1, id @f7r16.eq_1, uu f7b17.eq_1, uu f7b18.eq_1, id @f7r19.eq_1, uu f7b20.eq_1]
  refine callQ_l (o23 15 1 (by decide)) ?_ (ha := by rfl)
  simp only [Qs, Nat.reduceBEq]
  refine callQ_l c9 ?_ (ha := by rfl)
  simp only [Qs, Nat.reduceBEq, List.length_map, id @f7r3.eq_1, uu f7b4.eq_1]
  refine call_r c10 ?_ (ha := by rfl)
  simp only [Qs, q_regN_eq_1, Nat.reduceBEq, List.length_map, id @f7r1.eq_1, uu f7b2.eq_1]
  refine callQ_l (o23 15 0 (by decide)) ?_ (ha := by rfl)
  simp only [Qs, Nat.reduceBEq]
  refine callQ_l c11 ?_ (ha := by rfl)
  simp only [Qs, q_AOp_dst_eq_7, q_exLQ_eq_8, q_exLQ_eq_12, q_exLQ_eq_33, q_bsQ_eq_1, if_true, forall_eq, BEq.rfl, List.mem_cons, Nat.reduceLT, Nat.reduceBEq, List.not_mem_nil]
  refine callQ_s (s22' [17]) ?_ (ha := by rfl)
  simp only [Qs, q_AOp_dst_eq_7, q_exLQ_eq_8, q_bsQ_eq_1, if_true, forall_eq, List.mem_cons, Nat.reduceLT, Nat.reduceBEq, List.not_mem_nil]
  refine callQ_s (s22' [10]) ?_ (ha := by rfl)
  simp only [Qs, q_List_isEmpty_cons, if_true, if_false, List.nodup_nil, Nat.reduceBEq]
  exact hS
end Go.Abs


set_option maxRecDepth 100000
set_option maxHeartbeats 4000000
namespace Go.Abs
open Go.Proofs
theorem choiceV_ex (o : Order) (q : Int) : ∃ a b c e, choiceV o q = .tup [.agg [.int .i64 a, .int .i64 b, .bool c], .int .i64 e] := by
  unfold choiceV
  split
  · exact ⟨_, _, _, _, rfl⟩
  · exact ⟨_, _, _, _, rfl⟩
theorem typeQ_ex (q : Int) : ∃ a b, typeQ q = .tup [.int .i64 a, .bool b] := by
  unfold typeQ
  split
  · exact ⟨_, _, rfl⟩
  · exact ⟨_, _, rfl⟩
theorem l3 (o : Order) (q : Int) (cells : List Cell) : Spec Tryd.prog 3 [.agg (encOrder o), .int .i64 q, lst 2 (cells.map encCell)] (fun r => r = .bool true) := by
  refine Spec.of_awlS hf3 okf3 (by simp) fun S hS => ?_
  simp only [Qs, Nat.reduceAdd, Nat.reduceBEq, uu f3.eq_1, id @f3r27.eq_1, uu f3b28.eq_1, id @f3r29.eq_1, uu f3b30.eq_1]
  refine call_s o7 ?_
  simp only [Qs, Nat.reduceBEq, List.length_map, id @f3r24.eq_1, uu f3b25.eq_1, uu f3b26.eq_1]
  refine call_s (o8 o) ?_
  cases h1 : few18 o
  · simp only [Qs, List.nodup_nil, Nat.reduceBEq, id @f3r21.eq_1, uu f3b22.eq_1, uu f3b23.eq_1]
    exact hS
  by_cases h2 : (cells.length : Int) > 100
  · simp only [h2, List.length_map, Qs, if_true, if_false, List.nodup_nil, Nat.reduceBEq, List.length_map, id @f3r21.eq_1, uu f3b22.eq_1, uu f3b23.eq_1]
    exact hS
  simp only [h2, List.length_map, Qs, if_true, if_false, Nat.reduceBEq, List.length_map, id @f3r19.eq_1, uu f3b20.eq_1, uu f3b23.eq_1]
  have c9 := o9 o q cells
  have c10 := o10 o q cells
  rw [answerV] at c9 c10
  obtain ⟨ek, en, he⟩ : ∃ k n, answerC o q cells = Cell.mk k n := ⟨_, _, rfl⟩
  rw [he] at c9 c10
  refine call_r c9 ?_
  simp only [encCell, Qs, bne_iff_ne, ne_eq, List.append_nil, Nat.reduceAdd, Nat.reduceMul, Nat.reduceEqDiff, Nat.reduceBEq, List.length_map, id @f3r17.eq_1, uu f3b18.eq_1]
  refine call_r c10 ?_
  simp only [encCell, Qs, bne_iff_ne, ne_eq, List.append_nil, Nat.reduceAdd, Nat.reduceMul, Nat.reduceEqDiff, Nat.reduceBEq, List.length_map, id @f3r15.eq_1, uu f3b16.eq_1]
  have c11 := o11 o q
  have c12 := o12 o q
  obtain ⟨a, b, c, e, hc⟩ := choiceV_ex o q
  rw [hc] at c11 c12
  refine call_r c11 ?_
  simp only [Qs, bne_iff_ne, ne_eq, List.append_nil, Nat.reduceAdd, Nat.reduceMul, Nat.reduceEqDiff, Nat.reduceBEq, List.length_map, id @f3r13.eq_1, uu f3b14.eq_1]
  refine call_r c12 ?_
  simp only [Qs, bne_iff_ne, ne_eq, List.append_nil, Nat.reduceAdd, Nat.reduceMul, Nat.reduceEqDiff, Nat.reduceBEq, id @f3r11.eq_1, uu f3b12.eq_1]
  have c13 := o13 q
  have c14 := o14 q
  obtain ⟨f, g, ht⟩ := typeQ_ex q
  rw [ht] at c13 c14
  refine call_s c13 ?_
  simp only [Qs, Nat.reduceBEq, id @f3r9.eq_1, uu f3b10.eq_1]
  refine call_s c14 ?_
  simp only [Qs, q_AOp_dst_eq_11, q_exL_eq_12, q_exL_eq_13, q_vBinB_eq_1, q_eqRow_eq_1, q_eqRow_eq_2, q_eqC_eq_1, q_eqC_eq_2, if_true, if_false, forall_const, BEq.rfl, List.nodup_nil, Nat.reduceAdd, Nat.reduceBEq, List.length_map, Option.bind_some, id @f3r1.eq_1, uu f3b2.eq_1, id @f3r3.eq_1, uu f3b4.eq_1, uu f3b5.eq_1, id @f3r6.eq_1, uu f3b7.eq_1, uu f3b8.eq_1]
  refine callQ_l (o16 o q cells) ?_
  simp only [Qs, Nat.reduceBEq, List.length_map]
  refine callQ_l (o17 o q cells) ?_
  simp only [Qs, Nat.reduceBEq]
  refine callQ_s (s22' (needsO o q cells)) ?_
  simp only [Qs, if_true, Nat.reduceBEq, List.length_map]
  refine callQ_l (o18 o q) ?_
  simp only [Qs, Nat.reduceBEq, List.length_map]
  refine callQ_l (o19 o q) ?_
  simp only [Qs, Nat.reduceBEq]
  refine callQ_s (s22' (usesQ o q)) ?_
  simp only [Qs, if_true, List.nodup_nil, Nat.reduceBEq]
  exact hS
end Go.Abs


set_option maxRecDepth 100000
set_option maxHeartbeats 4000000
namespace Go.Abs
open Go.Proofs
theorem moreL_get (a b : List Cell) {n v : Nat} (h : v < n) : (moreL a b n).getD v zC = moreF a b v := by
  rw [List.getD_eq_getElem?_getD, moreL, List.getElem?_map, List.getElem?_range h]; rfl
theorem getD_known {a : List Cell} {v : Nat} (h : (a.getD v zC).known = true) : v < a.length := by
  apply Classical.byContradiction
  intro hn
  rw [List.getD_eq_getElem?_getD, List.getElem?_eq_none (by omega)] at h
  cases h
theorem below_more (a b : List Cell) : Below a (moreL a b (max a.length b.length)) := by
  intro v h0 _ hk
  rw [value_known h0] at hk
  have hl := getD_known hk
  have e : (moreL a b (max a.length b.length)).getD v.toNat zC = a.getD v.toNat zC := by rw [moreL_get a b (by omega), moreF, if_pos ⟨hl, .inl hk⟩]
  rw [valueC_eq h0, valueC_eq h0, e]
theorem clamp_known (q : Int) (c : Cell) : (clampC q c).known = c.known := by
  unfold clampC
  split
  · rename_i h; exact h.2.symm
  · rfl
theorem clamp_un {q : Int} {c : Cell} (h : c.known = false) : clampC q c = c := by
  rw [clampC, if_neg (by rw [h]; simp)]
theorem l4 (o : Order) (q : Int) (cells more : List Cell) : Spec Tryd.prog 4 [.agg (encOrder o), .int .i64 q, lst 2 (cells.map encCell), lst 2 (more.map encCell)] (fun r => r = .bool true) := by
  refine Spec.of_awlS hf4 okf4 (by simp) fun S hS => ?_
  simp only [Qs, Nat.reduceAdd, Nat.reduceBEq, uu f4.eq_1, id @f4r27.eq_1, uu f4b28.eq_1, id @f4r29.eq_1, uu f4b30.eq_1]
  refine call_s o7 ?_
  simp only [Qs, Nat.reduceBEq, List.length_map, id @f4r24.eq_1, uu f4b25.eq_1, uu f4b26.eq_1]
  refine call_s (o8 o) ?_
  cases h1 : few18 o
  · simp only [Qs, List.nodup_nil, Nat.reduceBEq, id @f4r21.eq_1, uu f4b22.eq_1, uu f4b23.eq_1]
    exact hS
  by_cases h2 : (cells.length : Int) > 100
  · simp only [h2, List.length_map, Qs, if_true, if_false, List.nodup_nil, Nat.reduceBEq, List.length_map, id @f4r21.eq_1, uu f4b22.eq_1, uu f4b23.eq_1]
    exact hS
  by_cases h3 : (more.length : Int) > 100
  · simp only [h2, h3, List.length_map, Qs, if_true, if_false, List.nodup_nil, Nat.reduceBEq, List.length_map, id @f4r21.eq_1, uu f4b22.eq_1, uu f4b23.eq_1]
    exact hS
  simp only [h2, h3, List.length_map, Qs, if_true, if_false, Nat.reduceBEq, List.length_map, id @f4r19.eq_1, uu f4b20.eq_1, uu f4b23.eq_1]
  have c9 := o9 o q cells
  have c9' := o9 o q (moreL cells more (max cells.length more.length))
  have c16 := o16 o q cells
  rw [answerV] at c9 c9'
  by_cases hu : usable o q = 0
  · obtain ⟨k, ok⟩ := usable_ok hu
    have hk := ok.hk
    have hw := ok.wt
    rw [hu, answer_yes ok] at c9 c9'
    rw [needsO, if_pos hu, ruleT_at ok.hk ok.rx] at c16
    have hrn := reach_nil hw ok.ck cells
    have hvr := vr_eval hw cells
    have hmo := eval_mono (below_more cells more) hw
    obtain ⟨ck, cn, hc⟩ : ∃ a b, eval o.rules[k].term cells = Cell.mk a b := ⟨_, _, rfl⟩
    rw [hc] at hrn hvr hmo c9
    have hz' : (((reachT o.rules[k].term cells).length : Int) == 0) = ck := by
      cases ck
      · have h9 : ¬ reachT o.rules[k].term cells = [] := fun h => by simpa using hrn.1 h
        simp [h9]
      · rw [hrn.2 rfl]; rfl
    generalize reachT o.rules[k].term cells = l at *
    have hkn := clamp_known q ⟨ck, cn⟩
    cases ck
    · have hn0 : cn = 0 := by simpa [VR] using hvr
      subst hn0
      rw [clamp_un rfl] at c9
      obtain ⟨dk, dn, hd⟩ : ∃ a b, clampC q (eval o.rules[k].term (moreL cells more (max cells.length more.length))) = Cell.mk a b := ⟨_, _, rfl⟩
      rw [hd] at c9'
      have hz2 : ¬ (l.length : Int) = 0 := by simpa using hz'
      refine call_r c9 ?_
      simp only [encCell, Qs, q_exLQ_eq_4, bne_iff_ne, ne_eq, List.append_nil, Nat.reduceAdd, Nat.reduceMul, Nat.reduceEqDiff, Nat.reduceBEq, List.length_map, id @f4r17o0.eq_1, id @f4r17o1.eq_1, id @f4r17o2.eq_1, id @f4r17o3.eq_1, id @f4r17o4.eq_1, id @f4r17o5.eq_1, id @f4r17o6.eq_1, id @f4r17o7.eq_1, id @f4r17o8.eq_1, id @f4r17o9.eq_1, id @f4r17o10.eq_1, id @f4r17o11.eq_1, utf4r17, uu f4b18.eq_1]
      refine callQ_l (o20 cells more (by omega) (by omega)) ?_
      simp only [Qs, Nat.reduceBEq]
      refine callQ_l c9' ?_
      simp only [encCell, Qs, q_exLQ_eq_28, q_V_fz_eq_4, q_V_fzL_eq_1, q_V_fzL_eq_2, List.append_nil, Nat.reduceAdd, Nat.reduceBEq, List.length_map, id @f4r15.eq_1, uu f4b16.eq_1]
      refine call_r c16 ?_
      simp only [hz', hz2, Qs, q_AOp_dst_eq_6, q_AOp_dst_eq_11, q_exL_eq_12, q_vBinB_eq_1, q_regN_eq_1, if_true, if_false, BEq.rfl, List.nodup_nil, Nat.reduceAdd, Nat.reduceLeDiff, Nat.reduceBEq, q_guardP_eq_3, Int.reduceBNe, id @f4r1.eq_1, uu f4b2.eq_1, uu f4b5.eq_1, id @f4r6.eq_1, uu f4b7.eq_1, uu f4b8.eq_1, uu f4b11.eq_1, id @f4r12.eq_1, uu f4b13.eq_1, uu f4b14.eq_1]
      exact hS
    · rw [hmo rfl] at c9'
      obtain ⟨dk, dn, hd⟩ : ∃ a b, clampC q ⟨true, cn⟩ = Cell.mk a b := ⟨_, _, rfl⟩
      rw [hd] at c9 c9' hkn
      simp only [] at hkn
      subst hkn
      have hz2 : (l.length : Int) = 0 := by simpa using hz'
      refine call_r c9 ?_
      simp only [encCell, Qs, q_exLQ_eq_4, bne_iff_ne, ne_eq, List.append_nil, Nat.reduceAdd, Nat.reduceMul, Nat.reduceEqDiff, Nat.reduceBEq, List.length_map, id @f4r17o0.eq_1, id @f4r17o1.eq_1, id @f4r17o2.eq_1, id @f4r17o3.eq_1, id @f4r17o4.eq_1, id @f4r17o5.eq_1, id @f4r17o6.eq_1, id @f4r17o7.eq_1, id @f4r17o8.eq_1, id @f4r17o9.eq_1, id @f4r17o10.eq_1, id @f4r17o11.eq_1, utf4r17, uu f4b18.eq_1]
      refine callQ_l (o20 cells more (by omega) (by omega)) ?_
      simp only [Qs, Nat.reduceBEq]
      refine callQ_l c9' ?_
      simp only [encCell, Qs, q_exLQ_eq_28, q_V_fz_eq_4, q_V_fzL_eq_1, q_V_fzL_eq_2, List.append_nil, Nat.reduceAdd, Nat.reduceBEq, List.length_map, id @f4r15.eq_1, uu f4b16.eq_1]
      refine call_r c16 ?_
      simp only [hz', hz2, Qs, q_AOp_dst_eq_6, q_AOp_dst_eq_11, q_exL_eq_12, q_exL_eq_13, q_vBinB_eq_1, q_eqRow_eq_1, q_eqRow_eq_2, q_eqC_eq_1, q_eqC_eq_2, q_regN_eq_1, if_true, if_false, BEq.rfl, List.nodup_nil, Nat.reduceAdd, Nat.reduceLeDiff, Nat.reduceBEq, q_guardP_eq_3, Int.reduceBNe, Option.bind_some, id @f4r1.eq_1, uu f4b2.eq_1, uu f4b5.eq_1, id @f4r6.eq_1, uu f4b7.eq_1, uu f4b8.eq_1, uu f4b11.eq_1, id @f4r12.eq_1, uu f4b13.eq_1, uu f4b14.eq_1]
      exact hS
  · rw [answer_no hu] at c9 c9'
    rw [needsO, if_neg hu] at c16
    refine call_r c9 ?_
    simp only [encCell, Qs, q_exLQ_eq_4, bne_iff_ne, ne_eq, List.append_nil, Nat.reduceAdd, Nat.reduceMul, Nat.reduceEqDiff, Nat.reduceBEq, List.length_map, id @f4r17o0.eq_1, id @f4r17o1.eq_1, id @f4r17o2.eq_1, id @f4r17o3.eq_1, id @f4r17o4.eq_1, id @f4r17o5.eq_1, id @f4r17o6.eq_1, id @f4r17o7.eq_1, id @f4r17o8.eq_1, id @f4r17o9.eq_1, id @f4r17o10.eq_1, id @f4r17o11.eq_1, utf4r17, uu f4b18.eq_1]
    refine callQ_l (o20 cells more (by omega) (by omega)) ?_
    simp only [Qs, Nat.reduceBEq]
    refine callQ_l c9' ?_
    simp only [encCell, Qs, q_exLQ_eq_28, q_V_fz_eq_4, q_V_fzL_eq_1, q_V_fzL_eq_2, List.append_nil, Nat.reduceAdd, Nat.reduceBEq, List.length_map, id @f4r15.eq_1, uu f4b16.eq_1]
    refine call_r c16 ?_
    simp only [hu, Qs, q_AOp_dst_eq_6, q_AOp_dst_eq_11, q_exL_eq_12, q_exL_eq_13, q_vBinB_eq_1, q_eqRow_eq_1, q_eqRow_eq_2, q_eqC_eq_1, q_eqC_eq_2, q_regN_eq_1, if_true, if_false, forall_const, BEq.rfl, List.nodup_nil, Nat.reduceAdd, Nat.reduceLeDiff, Nat.reduceBEq, q_guardP_eq_3, Int.reduceBNe, Option.bind_some, b_ft, id @f4r1.eq_1, uu f4b2.eq_1, id @f4r3.eq_1, uu f4b4.eq_1, uu f4b5.eq_1, id @f4r6.eq_1, uu f4b7.eq_1, uu f4b8.eq_1, id @f4r9.eq_1, uu f4b10.eq_1, uu f4b11.eq_1, id @f4r12.eq_1, uu f4b13.eq_1, uu f4b14.eq_1]
    exact hS
end Go.Abs


set_option maxRecDepth 100000
set_option maxHeartbeats 4000000
namespace Go.Abs
open Go.Proofs
theorem rix_app : ∀ (l1 l2 : List Rule) (r : Rule) (q n : Int), (∀ x, x ∈ l1 → x.ask ≠ q) → r.ask = q → rix (l1 ++ r :: l2) q n = n + l1.length
  | [], l2, r, q, n, _, h => by simp [rix, h]
  | a :: l1, l2, r, q, n, h1, h => by
    rw [List.cons_append, rix, if_neg (h1 a (by simp)), rix_app l1 l2 r q (n + 1) (fun x hx => h1 x (by simp [hx])) h]
    simp only [List.length_cons]; push_cast; omega
theorem same_rule {o o' : Order} {q : Int} (h1 : 0 ≤ rix o.rules q 0) (h2 : 0 ≤ rix o'.rules q 0) (ht : ruleT o q = ruleT o' q) (cells : List Cell) : usable o' q = usable o q ∧ answerC o' q cells = answerC o q cells := by
  have hu : usable o' q = usable o q := by
    unfold usable
    rw [ht, if_neg (show ¬ rix o.rules q 0 < 0 by omega), if_neg (show ¬ rix o'.rules q 0 < 0 by omega)]
  exact ⟨hu, by unfold answerC; rw [hu, ht]⟩
def lowR (l : List Rule) (q : Int) : List Rule := l.filter fun r => decide (r.ask < q)
def highR (l : List Rule) (q : Int) : List Rule := l.filter fun r => decide (r.ask > q)
def nlR (l : List Rule) : Option Bool := if l.isEmpty = true then some true else some false
theorem nlR_app (l : List Rule) (r : Rule) (x : List C) : nlApp (nlR l) [x] = nlR (l ++ [r]) := by
  have : nlR (l ++ [r]) = some false := by simp [nlR]
  rw [this]; rfl
theorem low_take {l : List Rule} {i : Nat} (h : i < l.length) (q : Int) : lowR (l.take (i + 1)) q = if l[i].ask < q then lowR (l.take i) q ++ [l[i]] else lowR (l.take i) q := by
  rw [List.take_add_one, List.getElem?_eq_getElem h]
  simp only [lowR, Option.toList_some, List.filter_append]
  by_cases hq : l[i].ask < q <;> simp [hq]
theorem high_take {l : List Rule} {i : Nat} (h : i < l.length) (q : Int) : highR (l.take (i + 1)) q = if l[i].ask > q then highR (l.take i) q ++ [l[i]] else highR (l.take i) q := by
  rw [List.take_add_one, List.getElem?_eq_getElem h]
  simp only [highR, Option.toList_some, List.filter_append]
  by_cases hq : l[i].ask > q <;> simp [hq]
theorem low_len (l : List Rule) (q : Int) (i : Nat) : (lowR (l.take i) q).length ≤ l.length := Nat.le_trans (List.length_filter_le _ _) (by simp; omega)
theorem high_len (l : List Rule) (q : Int) (i : Nat) : (highR (l.take i) q).length ≤ l.length := Nat.le_trans (List.length_filter_le _ _) (by simp; omega)
theorem answer_range {o : Order} {q : Int} {cells : List Cell} {n : Int} (h : answerC o q cells = ⟨true, n⟩) : usable o q = 0 ∧ 0 ≤ n ∧ n ≤ 20000 ∧ (qtype q = 1 → n ≤ 1) ∧ ¬ (q < 0 ∨ q ≥ 22) := by
  by_cases hu : usable o q = 0
  · obtain ⟨k, ok⟩ := usable_ok hu
    rw [answer_yes ok] at h
    have hvr := vr_eval ok.wt cells
    refine ⟨hu, ?_⟩
    generalize eval (o.rules[k]'ok.hk).term cells = c at h hvr
    unfold clampC at h
    split at h
    · rename_i hc
      cases h
      unfold clampD
      refine ⟨?_, ?_, fun h1 => absurd (hc.1.symm.trans h1) (by decide), ok.q0⟩
      · repeat' split
        all_goals omega
      · repeat' split
        all_goals omega
    · rename_i hc
      subst h
      rcases qtype_01 q with hq | hq
      · exact absurd ⟨hq, rfl⟩ hc
      · rw [hq] at hvr
        have := bit_of (k := 1) hvr rfl
        simp only [] at this
        exact ⟨by omega, by omega, fun _ => by omega, ok.q0⟩
  · rw [answer_no hu] at h; cases h
theorem few_len {o : Order} (h : few18 o = true) : o.rules.length ≤ 60 := by
  unfold few18 at h
  split at h
  · cases h
  · omega
theorem l6rest (o : Order) (q : Int) (cells : List Cell) (others : List Rule) (choices : List Choice) (name : List UInt8) (ak : Bool) (an : Int) (tb : Bool) (hol : others.length ≤ 60) (ha : answerC o q cells = ⟨ak, an⟩)
    (htb : tb = decide (¬ (q < 0 ∨ q ≥ 22))) (S : V → Prop) (hS : S (.bool true)) :
    awl Tryd.prog f6b50 (endK [RX.t 12] S) [(1, .int .i64 q), (2, lst 2 (cells.map encCell)), (3, lst 4 (others.map encRule)), (4, lst 3 (choices.map encChoice)), (5, .str name), (6, .k (.ptr 6 0)), (13, .bool true), (14, .k (.ptr 14 0)), (15, .int .i64 (usable o q)), (17, .bool tb)]
      [(6, .var 25 ((encOrder o).map .c)), (14, .var 30 [.c (.bool ak), .c (.int .i64 an)])] := by
  simp only [Qs, Nat.reduceBEq, List.length_map, id @f6r49.eq_1, uu f6b50.eq_1]
  refine call_s (o21 o q) ?_
  by_cases hr : rix o.rules q 0 < 0
  · by_cases hq : q < 0 ∨ q ≥ 22
    · have hu : usable o q = 1 := by rw [usable, if_pos hq]
      have hb : tb = false := by rw [htb]; simp; omega
      subst hb
      simp only [hr, hu, Qs, q_C_norm_eq_6, if_true, if_false, BEq.rfl, List.nodup_nil, Nat.reduceBEq, Int.reduceBEq, id @f6r43.eq_1, uu f6b44.eq_1, uu f6b45.eq_1, id @f6r46.eq_1, uu f6b47.eq_1, uu f6b48.eq_1]
      exact hS
    · have hu : usable o q = 4 := by rw [usable, if_neg hq, if_pos hr]
      have hb : tb = true := by rw [htb]; simp; omega
      subst hb
      simp only [hr, hu, Qs, q_C_norm_eq_6, if_true, BEq.rfl, List.nodup_nil, Nat.reduceBEq, q_guardP_eq_3, id @f6r43.eq_1, uu f6b44.eq_1, uu f6b45.eq_1, id @f6r46.eq_1, uu f6b47.eq_1, uu f6b48.eq_1]
      exact hS
  clear htb
  obtain ⟨k, hk, h1, hask, _⟩ := rix_at o.rules q 0 (by omega) (by omega)
  rw [Int.zero_add] at h1
  have k0 : ¬ (k : Int) < 0 := by omega
  have k1 : (0 : Int) ≤ k := by omega
  have k2 : (k : Int) < o.rules.length := by omega
  simp only [h1, k0, Qs, if_true, bne_iff_ne, ne_eq, Nat.reduceEqDiff, Nat.reduceBEq, uu f6b37.eq_1, id @f6r38.eq_1, uu f6b39.eq_1, uu f6b40.eq_1, id @f6r41.eq_1, uu f6b42.eq_1, uu f6b45.eq_1, id @f6r46.eq_1, uu f6b47.eq_1, uu f6b48.eq_1]
  rw [uf6l36]
  refine awl_loop (fun i : Nat => [(1, .int .i64 q), (2, lst 2 (cells.map encCell)), (3, lst 4 (others.map encRule)), (4, lst 3 (choices.map encChoice)), (5, .str name), (6, .k (.ptr 6 0)), (13, .bool true), (14, .k (.ptr 14 0)), (15, .int .i64 (usable o q)), (18, .int .i64 k), (19, .k (.own 19)), (20, .int .i64 i)])
    (fun i => [(6, .var 25 ((encOrder o).map .c)), (14, .var 30 [.c (.bool ak), .c (.int .i64 an)]), (19, .arr 52 4 (nlR (lowR (others.take i) q)) ((lowR (others.take i) q).map encRule))]) (fun i => i ≤ others.length) (fun i => others.length - i) 0 rfl rfl (Nat.zero_le _) ?_
  intro i hi
  by_cases hlt : i < others.length
  · have c1 : (i : Int) < others.length := by omega
    have c4 : IntKind.i64.wrap ((i : Int) + 1) = (i : Int) + 1 := wrap_in (by omega) (by omega)
    have hlt2 := low_take hlt q
    have hll := low_len others q i
    by_cases hq : others[i].ask < q
    · rw [if_pos hq] at hlt2
      simp only [c1, c4, hq, map_at hlt, encRule_len, List.length_map, Qs, if_true, if_false, forall_eq, bne_iff_ne, ne_eq, List.mem_cons, Nat.reduceAdd, Nat.reduceEqDiff, Nat.reduceLeDiff, Nat.reduceLT, Nat.reduceBEq, List.length_map, encRule_len, List.not_mem_nil, g_rule0, r_map_scrub, id @f6r25.eq_1, id @f6r26.eq_1, uu f6b27.eq_1, id @f6r28.eq_1, uu f6b29.eq_1, uu f6b30.eq_1, uu f6b31.eq_1, uu f6b32.eq_1, id @f6r33.eq_1, uu f6b34.eq_1, uu f6b35.eq_1]
      refine ⟨by omega, by omega, Next.intro (i + 1) rfl ?_ (by omega) (by omega)⟩
      rw [hlt2, List.map_append, ← nlR_app _ _ (encRule others[i])]; rfl
    · rw [if_neg hq] at hlt2
      simp only [c1, c4, hq, map_at hlt, encRule_len, List.length_map, Qs, if_true, Nat.reduceLeDiff, Nat.reduceBEq, List.length_map, g_rule0, id @f6r25.eq_1, id @f6r26.eq_1, uu f6b27.eq_1, id @f6r28.eq_1, uu f6b29.eq_1, uu f6b30.eq_1, uu f6b31.eq_1, uu f6b32.eq_1, id @f6r33.eq_1, uu f6b34.eq_1, uu f6b35.eq_1]
      refine Next.intro (i + 1) rfl ?_ (by omega) (by omega)
      rw [hlt2]; rfl
  have c1 : ¬ (i : Int) < others.length := by omega
  obtain rfl : i = others.length := by omega
  rw [List.take_length]
  have hll : (lowR others q).length ≤ 60 := Nat.le_trans (List.length_filter_le _ _) hol
  simp only [c1, k1, k2, map_at hk, encRule_len, List.length_map, Qs, if_true, if_false, forall_eq, bne_iff_ne, ne_eq, List.mem_cons, Nat.reduceAdd, Nat.reduceEqDiff, Nat.reduceLeDiff, Nat.reduceLT, Nat.reduceBEq, List.length_map, encRule_len, List.not_mem_nil, r_map_scrub, uu f6b19.eq_1, id @f6r20.eq_1, uu f6b21.eq_1, uu f6b22.eq_1, id @f6r23.eq_1, uu f6b24.eq_1, uu f6b32.eq_1, id @f6r33.eq_1, uu f6b34.eq_1, uu f6b35.eq_1]
  refine ⟨by omega, by omega, ?_⟩
  rw [uf6l18]
  refine awl_loop (fun i : Nat => [(1, .int .i64 q), (2, lst 2 (cells.map encCell)), (3, lst 4 (others.map encRule)), (4, lst 3 (choices.map encChoice)), (5, .str name), (6, .k (.ptr 6 0)), (13, .bool true), (14, .k (.ptr 14 0)), (15, .int .i64 (usable o q)), (18, .int .i64 k), (19, .k (.own 19)), (21, .int .i64 i)])
    (fun i => [(6, .var 25 ((encOrder o).map .c)), (14, .var 30 [.c (.bool ak), .c (.int .i64 an)]), (19, .arr 52 4 (some false) ((lowR others q ++ o.rules[k] :: highR (others.take i) q).map encRule))]) (fun i => i ≤ others.length) (fun i => others.length - i) 0 rfl (by simp [highR]; rfl) (Nat.zero_le _) ?_
  intro i hi
  by_cases hlt : i < others.length
  · have c1 : (i : Int) < others.length := by omega
    have c4 : IntKind.i64.wrap ((i : Int) + 1) = (i : Int) + 1 := wrap_in (by omega) (by omega)
    have hlt2 := high_take hlt q
    have hhl := high_len others q i
    have hl3 : (lowR others q ++ o.rules[k] :: highR (others.take i) q).length ≤ 200 := by simp; omega
    by_cases hq : others[i].ask > q
    · rw [if_pos hq] at hlt2
      generalize hm : lowR others q ++ o.rules[k] :: highR (others.take i) q = mid at hl3
      have hm2 : lowR others q ++ o.rules[k] :: (highR (others.take i) q ++ [others[i]]) = mid ++ [others[i]] := by rw [← hm]; simp
      simp only [c1, c4, hq, map_at hlt, encRule_len, List.length_map, Qs, if_true, if_false, forall_eq, bne_iff_ne, ne_eq, List.mem_cons, Nat.reduceAdd, Nat.reduceEqDiff, Nat.reduceLeDiff, Nat.reduceLT, Nat.reduceBEq, List.length_map, encRule_len, List.not_mem_nil, g_rule0, r_map_scrub, id @f6r7.eq_1, id @f6r8.eq_1, uu f6b9.eq_1, id @f6r10.eq_1, uu f6b11.eq_1, uu f6b12.eq_1, uu f6b13.eq_1, uu f6b14.eq_1, id @f6r15.eq_1, uu f6b16.eq_1, uu f6b17.eq_1]
      refine ⟨by omega, by omega, Next.intro (i + 1) rfl ?_ (by omega) (by omega)⟩
      rw [hlt2, hm2, List.map_append]; rfl
    · rw [if_neg hq] at hlt2
      simp only [c1, c4, hq, map_at hlt, encRule_len, List.length_map, Qs, if_true, Nat.reduceLeDiff, Nat.reduceBEq, List.length_map, g_rule0, id @f6r7.eq_1, id @f6r8.eq_1, uu f6b9.eq_1, id @f6r10.eq_1, uu f6b11.eq_1, uu f6b12.eq_1, uu f6b13.eq_1, uu f6b14.eq_1, id @f6r15.eq_1, uu f6b16.eq_1, uu f6b17.eq_1]
      refine Next.intro (i + 1) rfl ?_ (by omega) (by omega)
      rw [hlt2]; rfl
  have c1 : ¬ (i : Int) < others.length := by omega
  obtain rfl : i = others.length := by omega
  rw [List.take_length]
  have e1 : 0 ≤ rix o.rules q 0 := by omega
  have x1 := same_rule (o := o) (o' := ⟨[], false, [], [o.rules[k]]⟩) (q := q) e1 (by simp [rix, hask]) (by rw [ruleT_at hk h1]; simp [ruleT, rix, hask]) cells
  have hlow : ∀ x, x ∈ lowR others q → x.ask ≠ q := by
    intro x hx
    simp only [lowR, List.mem_filter, decide_eq_true_eq] at hx
    omega
  generalize hmid : lowR others q ++ o.rules[k] :: highR others q = mid
  have hrm : rix mid q 0 = (lowR others q).length := by rw [← hmid, rix_app _ _ _ _ _ hlow hask]; simp
  have x2 := same_rule (o := o) (o' := ⟨name, !o.accepts, choices, mid⟩) (q := q) e1 (by simp only [hrm]; omega) (by
    rw [ruleT_at hk h1, ruleT]
    simp only [hrm]
    rw [← hmid]
    simp) cells
  have b9 := o9 ⟨[], false, [], [o.rules[k]]⟩ q cells
  have c9 := o9 ⟨name, !o.accepts, choices, mid⟩ q cells
  rw [answerV, x1.1, x1.2, ha] at b9
  rw [answerV, x2.1, x2.2, ha] at c9
  simp only [c1, List.length_map, Qs, if_true, Nat.reduceBEq, List.length_map, uu f6b14.eq_1, id @f6r15.eq_1, uu f6b16.eq_1, uu f6b17.eq_1]
  clear hi hlt c1 hll hlow hrm x1 x2 e1 hmid
  simp only [k1, k2, map_at hk, encRule_len, List.length_map, Qs, q_Option_map_none, if_true, forall_eq, bne_iff_ne, ne_eq, List.append_nil, List.mem_cons, Nat.reduceAdd, Nat.reduceEqDiff, Nat.reduceLT, Nat.reduceBEq, List.length_map, encRule_len, List.not_mem_nil, id @f6r5.eq_1, uu f6b6.eq_1]
  refine call_f 155 (by simp [look, lookT]) (by simp [V.hard, V.toks, Abs.K.toks]) (by simp [lookO, plainO]) ?_
  simp only [Qs, if_true, if_false, Nat.reduceEqDiff, Nat.reduceBEq, z_V_k, z_V_agg, z_K_c, z_K_pel, z_O_var, z_O_arr, z_frzT, z_frzO, r_map_frz, z_agF1, z_V_agk, z_K_own_arr, z_K_ptr_arr]
  refine of_orF (call_r b9 ?_ (ha := by simp [lendL, V.norm, C.normRow, C.norm, C.normRows, encOrder, encRule_norm, lstC, normRows_Ce]))
  simp only [encCell, Qs, bne_iff_ne, ne_eq, List.append_nil, Nat.reduceAdd, Nat.reduceMul, Nat.reduceEqDiff, Nat.reduceBEq]
  have hacc : ofRow false (List.take 1 (List.drop 1 (List.map Abs.K.c (encOrder o)))) = .k (.c (.bool o.accepts)) := rfl
  simp only [hacc, Qs, q_Option_map_none, if_true, List.append_nil, Nat.reduceAdd, Nat.reduceLeDiff, Nat.reduceBEq, List.length_map, id @f6r3.eq_1, uu f6b4.eq_1]
  refine call_f 19 (by simp [look, lookT]) (by simp [V.hard, V.toks, Abs.K.toks]) (by simp [lookO, plainO]) ?_
  simp only [Qs, if_true, if_false, Nat.reduceEqDiff, Nat.reduceBEq, z_V_k, z_V_agg, z_V_tup, z_K_c, z_K_pel, z_O_var, z_frzT, z_frzO, r_map_frz, z_agF1, z_V_agk, z_K_own_arr, z_K_ptr_arr]
  refine of_orF (call_r c9 ?_ (ha := by simp [lendL, V.norm, C.normRow, C.norm, C.normRows, encOrder, norm_lst, norm_list, normRows_Ce, normRows_Ch, normRows_R]; cases mid <;> rfl))
  simp only [encCell, Qs, q_exL_eq_13, q_eqRow_eq_1, q_eqRow_eq_2, q_eqC_eq_1, q_eqC_eq_2, q_V_noRef_eq_6, q_V_nrm_eq_6, q_C_norm_eq_6, q_List_isEmpty_cons, if_true, if_false, bne_iff_ne, ne_eq, BEq.rfl, List.append_nil, List.nodup_nil, Nat.reduceAdd, Nat.reduceMul, Nat.reduceEqDiff, Nat.reduceBEq, encRule_norm, Option.bind_some, id @f6r1.eq_1, uu f6b2.eq_1]
  exact hS
theorem l6 (o : Order) (q : Int) (cells : List Cell) (others : List Rule) (choices : List Choice) (name : List UInt8) :
    Spec Tryd.prog 6 [.agg (encOrder o), .int .i64 q, lst 2 (cells.map encCell), lst 4 (others.map encRule), lst 3 (choices.map encChoice), .str name] (fun r => r = .bool true) := by
  refine Spec.of_awlS hf6 okf6 (by simp) fun S hS => ?_
  simp only [Qs, Nat.reduceAdd, Nat.reduceBEq, uu f6.eq_1, id @f6r67.eq_1, uu f6b68.eq_1, id @f6r69.eq_1, uu f6b70.eq_1]
  refine call_s o7 ?_
  simp only [Qs, Nat.reduceBEq, List.length_map, id @f6r64.eq_1, uu f6b65.eq_1, uu f6b66.eq_1]
  refine call_s (o8 o) ?_
  cases h1 : few18 o
  · simp only [Qs, q_AOp_dst_eq_6, q_C_norm_eq_6, List.nodup_nil, Nat.reduceBEq, id @f6r61.eq_1, uu f6b62.eq_1, uu f6b63.eq_1]
    exact hS
  simp only [Qs, q_AOp_dst_eq_6, if_true, List.append_nil, Nat.reduceAdd, Nat.reduceLeDiff, Nat.reduceBEq]
  refine call_s (o8 ⟨[], false, choices, others⟩) ?_
  cases h2 : few18 ⟨[], false, choices, others⟩
  · simp only [Qs, q_C_norm_eq_6, if_false, List.nodup_nil, Nat.reduceBEq, id @f6r61.eq_1, uu f6b62.eq_1, uu f6b63.eq_1]
    exact hS
  by_cases h3 : (cells.length : Int) > 100
  · simp only [h3, List.length_map, Qs, q_C_norm_eq_6, if_true, if_false, List.nodup_nil, Nat.reduceBEq, List.length_map, id @f6r61.eq_1, uu f6b62.eq_1, uu f6b63.eq_1]
    exact hS
  simp only [h3, List.length_map, Qs, if_true, if_false, Nat.reduceBEq, List.length_map, id @f6r59.eq_1, uu f6b60.eq_1, uu f6b63.eq_1]
  have hol : others.length ≤ 60 := few_len h2
  have c9 := o9 o q cells
  rw [answerV] at c9
  obtain ⟨ak, an, ha⟩ : ∃ a b, answerC o q cells = Cell.mk a b := ⟨_, _, rfl⟩
  rw [ha] at c9
  refine call_r c9 ?_
  simp only [encCell, Qs, bne_iff_ne, ne_eq, List.append_nil, Nat.reduceAdd, Nat.reduceMul, Nat.reduceEqDiff, Nat.reduceBEq, id @f6r57.eq_1, uu f6b58.eq_1]
  have c13 := o13 q
  obtain ⟨tk, tb, ht⟩ := typeQ_ex q
  rw [ht] at c13
  refine call_s c13 ?_
  have c21 := o21 o q
  have htb : tb = decide (¬ (q < 0 ∨ q ≥ 22)) := by
    unfold typeQ at ht
    split at ht
    · rename_i hq; cases ht; simp; omega
    · rename_i hq; cases ht; simp; omega
  cases ak
  · simp only [Qs, if_false, Nat.reduceAdd, Nat.reduceLeDiff, Nat.reduceBEq, q_guardP_eq_3, uu f6b53.eq_1, id @f6r54.eq_1, uu f6b55.eq_1, uu f6b56.eq_1]
    exact l6rest o q cells others choices name false an tb hol ha htb S hS
  · obtain ⟨u0, n0, n2, n1, q0⟩ := answer_range ha
    rw [typeQ_ok q0] at ht
    cases ht
    have d1 : ¬ an < 0 := by omega
    have d2 : ¬ an > 20000 := by omega
    rcases qtype_01 q with hq | hq
    · simp only [hq, d1, d2, Qs, if_true, if_false, Nat.reduceAdd, Nat.reduceLeDiff, Nat.reduceBEq, Int.reduceBEq, uu f6b53.eq_1, id @f6r54.eq_1, uu f6b55.eq_1, uu f6b56.eq_1]
      exact l6rest o q cells others choices name true an true hol ha htb S hS
    · have d3 : ¬ an > 1 := by have := n1 hq; omega
      simp only [hq, d1, d2, d3, Qs, if_true, if_false, BEq.rfl, Nat.reduceAdd, Nat.reduceLeDiff, Nat.reduceBEq, uu f6b53.eq_1, id @f6r54.eq_1, uu f6b55.eq_1, uu f6b56.eq_1]
      exact l6rest o q cells others choices name true an true hol ha htb S hS
end Go.Abs


set_option maxRecDepth 100000
namespace Go.Proofs.YtdanjbnklaaehaaDoor
open Go.Abs Go.RowKit Go.ChangeShapes Go.WideShapes Go.ChangeAt Go.WideMaps Go.WideElems
theorem own : ownKnob Tryd.prog.godebug = none := by kernel_rfl
theorem kids : Kids Tryd.prog (· < Tryd.prog.types.size) := kids_rows (by kernel_rfl) (by kernel_rfl)
theorem full : ∀ t e, t < Tryd.prog.types.size → Tryd.prog.underlying t = some (.slice e) → 0 < Tryd.prog.cellsOf e := slices_full_of Tryd.prog (by kernel_rfl)
def plainTs : List TypeId := [3, 4, 9, 22, 23, 25, 26, 30, 35, 48, 50, 52]
theorem plainTs_ok : plainT Tryd.prog plainTs = true := by kernel_rfl
theorem plainTs_lt : ∀ t ∈ plainTs, t < Tryd.prog.types.size := by
  have : plainTs.all (fun t => decide (t < Tryd.prog.types.size)) = true := by kernel_rfl
  simpa using this
theorem tt : TermTypes Tryd.prog 3 4 9 50 48 52 23 35 22 25 where
  i := Tryd.underlying3
  b := Tryd.underlying4
  s := Tryd.underlying9
  t := ⟨_, Tryd.underlying50, rfl⟩
  lt := ⟨Tryd.underlying48, by kernel_rfl⟩
  r := ⟨_, Tryd.underlying52, rfl⟩
  lr := ⟨Tryd.underlying23, by kernel_rfl⟩
  c := ⟨_, Tryd.underlying35, rfl⟩
  lc := ⟨Tryd.underlying22, by kernel_rfl⟩
  o := ⟨_, Tryd.underlying25, rfl⟩
theorem spec6 (xs : List V) (h : ArgsOf Tryd.prog [25, 3, 26, 23, 22, 9] xs) : Go.Abs.Spec Tryd.prog 6 xs (fun r => r = .bool true) := by
  match xs, h with
  | [a0, a1, a2, a3, a4, a5], ⟨⟨_, _, h0, q0⟩, ⟨_, _, h1, q1⟩, ⟨_, _, h2, q2⟩, ⟨_, _, h3, q3⟩, ⟨_, _, h4, q4⟩, ⟨_, _, h5, q5⟩, _⟩ =>
    obtain ⟨x0, e0⟩ := arg_order tt h0
    obtain ⟨x1, e1, _⟩ := arg_int tt.i h1
    obtain ⟨x2, e2⟩ := arg_cells Tryd.underlying26 Tryd.underlying30 rfl tt.b tt.i (by kernel_rfl) h2
    obtain ⟨x3, e3⟩ := arg_rules tt h3
    obtain ⟨x4, e4⟩ := arg_choices tt h4
    obtain ⟨x5, e5⟩ := arg_str tt.s h5
    rw [q0, q1, q2, q3, q4, q5, e0, e1, e2, e3, e4, e5]
    exact l6 x0 x1 x2 x3 x4 x5
abbrev laidN : List (String × DataW Unit) := [("allonge/order.numbers", Rows.laid_allonge_order_numbers)]
theorem gNum : Tryd.prog.globalNamed "allonge/order.numbers" = some 0 := by kernel_rfl
theorem tNum : (Tryd.prog.globals[0]?).map (·.type) = some 63 := by kernel_rfl
theorem door_met (os : Os) (args : Array Value) : laidMetH Tryd.prog laidN ((World.doorLaid Tryd.prog 14 os).forCall (fun _ _ => 0) ⟨#[], args, []⟩).memory :=
  laidMetH_of_parts3 (fuel := 8) (laidMet_of_run' 8 (by kernel_rfl) (by kernel_rfl)) (by kernel_rfl) (by kernel_rfl)
theorem glob_of_laid {W : World} (h : laidMetH Tryd.prog laidN W) : GlobB (Go.Abs.base W) := by
  rw [MakeChecks.laidMetH_plain _ _ _ (by kernel_rfl)] at h
  have hT := Lib.tabIs_of_head (zs := numQ) (k := .i64) gNum tNum Tryd.underlying63 Tryd.underlying3 (by kernel_rfl) (by kernel_rfl) h
  intro g l hg
  unfold globRow at hg
  split at hg
  · rename_i h0
    subst h0
    cases hg
    refine ⟨?_, fun j hj => hT.cell gNum j hj⟩
    have := hT.cell gNum 0 (by decide)
    unfold World.cell? at this
    cases hb : W.heap[0]? with
    | none => rw [hb] at this; simp at this
    | some ob => exact (Array.getElem?_eq_some_iff.1 hb).1
  · cases hg
theorem lifted6 (os : Os) (started : os.Started) (H : Type) (enc : TypeId × Value → H) :
    ReturnsInHanded {} Tryd.checked os 6 .any (fun w args => (Rows.orderAloneSpec.pre enc Tryd.prog Tryd.f6 [] false w args ∧ laidMetH Tryd.prog laidN w) ∧ sizedMet enc Tryd.prog Tryd.f6 (OpenSpec.ofChange Rows.orderAloneSpec) false w args)
      (Rows.orderAloneSpec.post enc Tryd.prog Tryd.f6 false true false false) := by
  refine returnsInHanded_of_change_and (C := Tryd.checked) (X := fun w _ => laidMetH Tryd.prog laidN w) (fun _ _ _ hh h => h.of_heap hh) own started (by kernel_rfl) Tryd.func6
    (ChangeSpec.witness_shaped (enc := enc) (C := Tryd.checked) (os := os) (X := fun w _ => laidMetH Tryd.prog laidN w) false (World.doorLaid Tryd.prog 14 os) #[.agg #[.string ⟨#[]⟩, .bool false, .slice none 0 0, .slice none 0 0], .int .i64 0, .slice none 0 0, .slice none 0 0, .slice none 0 0, .string ⟨#[]⟩] 8 rfl (World.shaped_of_RefB (by kernel_rfl) (by kernel_rfl)) (by kernel_rfl) (by kernel_rfl) (by kernel_rfl) (door_met os _)) ?_
  intro W base args ds gs before hval hW _ _ hL _
  refine law_contract (C := Tryd.checked) (T := plainTs) (tb := 4) plainTs_ok plainTs_lt ?_ kids full rfl ?_ ?_ Tryd.underlying4 ?_ W base args ds gs before hval hW (glob_of_laid hL)
  · rw [Tryd.params6]; decide
  · intro ds hds
    rw [Tryd.params6] at hds
    match ds, hds with
    | [a0, a1, a2, a3, a4, a5], _ => rfl
  · kernel_rfl
  · intro xs hxs
    rw [Tryd.params6] at hxs
    exact spec6 xs hxs
theorem OrderAlone_row : Rows.OrderAloneSaid :=
  OpenClaim.holds_of_wide 6 Tryd.f6 rfl rfl rfl rfl rfl rfl rfl ⟨rfl, rfl, rfl, rfl, rfl⟩ rfl rfl rfl rfl rfl (by kernel_rfl) Tryd.func6 (by kernel_rfl)
    (of_decide_eq_true (by kernel_rfl)) (by unfold Func.isWrapper; first | (rw [if_pos (by decide +kernel)]; kernel_rfl) | (rw [if_neg (by decide +kernel)]; exact ⟨rfl, rfl⟩))
    (fun os started H enc _ => lifted6 os started H enc)
theorem OrderAlone_holds : Rows.OrderAloneCardSaid :=
  Claim7.holds_tied_plain_at .later [] [.widerDeep] true Rows.orderAloneCard.stood.harness false
    OrderAlone_row (fun _ h => by cases h) (by kernel_rfl) (fun _ h => by cases h) orderAlone_row_tie rfl ⟨rfl, rfl⟩ (by kernel_rfl) rfl
    (fun f fn hf hfn => by
      obtain rfl : f = 6 := Option.some.inj ((show Tryd.prog.funcNamed "allonge/allongelaw18.OrderAlone" = some 6 by kernel_rfl).symm.trans hf) |>.symm
      obtain rfl : fn = Tryd.f6 := (Option.some.inj (Tryd.func6.symm.trans hfn)).symm
      exact ⟨by kernel_rfl, fun j t ht => by
        rw [Tryd.params6] at ht
        have hm : t ∈ [25, 3, 26, 23, 22, 9] := by simpa using Array.mem_of_getElem? ht
        have hall : ([25, 3, 26, 23, 22, 9].all fun u => !Tryd.prog.wantsStandIn u) = true := by kernel_rfl
        exact (show Tryd.prog.wantsStandIn t = false by simpa using List.all_eq_true.1 hall t hm)⟩)
    (by kernel_rfl)
end Go.Proofs.YtdanjbnklaaehaaDoor

