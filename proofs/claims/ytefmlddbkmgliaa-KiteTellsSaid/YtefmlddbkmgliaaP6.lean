/- A part of the proof; the last text states what is proved. -/
import Derived.Test.YtefmlddbkmgliaaP5
import Derived.Test.YtefmlddbkmgliaaRows
import Derived.ProofKit
import Derived.DataShut
set_option linter.unusedVariables false
set_option linter.unusedSimpArgs false
set_option maxRecDepth 100000
set_option maxHeartbeats 4000000
namespace Go.Abs
open Go.Proofs Go.RowKit
theorem e53 (n : Int) (l : List (Int × Int)) : Spec Try.prog 53 [.int .i64 n, lst 2 (eds l)] (fun r => r = .bool (rightG n l)) := by
  refine Spec.of_awlS hf53 okf53 (by simp) fun S hS => ?_
  by_cases b1 : n < 0
  · simp only [b1, eds_len, normRows_eds, Qs, if_true, List.nodup_nil, Nat.reduceAdd, Nat.reduceBEq, uu f53.eq_1, vv f53r20.eq_1, uu f53b21.eq_1, uu f53b22.eq_1, vv f53r23.eq_1, uu f53b24.eq_1, uu f53b25.eq_1, vv f53r26.eq_1, uu f53b27.eq_1]
    refine fin hS ?_
    unfold rightG; rw [decide_eq_false (by omega)]; rfl
  by_cases b2 : n > 300
  · simp only [b1, b2, eds_len, normRows_eds, Qs, if_true, if_false, List.nodup_nil, Nat.reduceAdd, Nat.reduceBEq, uu f53.eq_1, vv f53r20.eq_1, uu f53b21.eq_1, uu f53b22.eq_1, vv f53r23.eq_1, uu f53b24.eq_1, uu f53b25.eq_1, vv f53r26.eq_1, uu f53b27.eq_1]
    refine fin hS ?_
    unfold rightG; rw [decide_eq_false (by omega)]; rfl
  by_cases b3 : (l.length : Int) > 2000
  · simp only [b1, b2, b3, eds_len, normRows_eds, Qs, if_true, if_false, List.nodup_nil, Nat.reduceAdd, Nat.reduceBEq, uu f53.eq_1, vv f53r20.eq_1, uu f53b21.eq_1, uu f53b22.eq_1, vv f53r23.eq_1, uu f53b24.eq_1, uu f53b25.eq_1, vv f53r26.eq_1, uu f53b27.eq_1]
    refine fin hS ?_
    unfold rightG; rw [decide_eq_false (by omega)]; rfl
  simp only [b1, b2, b3, eds_len, normRows_eds, Qs, if_true, if_false, Nat.reduceAdd, Nat.reduceBEq, uu f53.eq_1, uu f53b16.eq_1, vv f53r17.eq_1, uu f53b18.eq_1, uu f53b19.eq_1, uu f53b22.eq_1, vv f53r23.eq_1, uu f53b24.eq_1, uu f53b25.eq_1, vv f53r26.eq_1, uu f53b27.eq_1]
  rw [uu f53l15.eq_1]
  refine awl_loop (fun i : Nat => [(0, .int .i64 n), (1, lst 2 (eds l)), (5, .int .i64 i)]) (fun _ => []) (fun i => i ≤ l.length ∧ (l.take i).all (edgeOk n) = true) (fun i => l.length - i) 0 rfl rfl ⟨Nat.zero_le _, rfl⟩ ?_
  rintro i ⟨hi, hd⟩
  by_cases hlt : i < l.length
  · have c1 : (i : Int) < l.length := by omega
    have c4 : IntKind.i64.wrap ((i : Int) + 1) = (i : Int) + 1 := wrap_in (by omega) (by omega)
    have z0 : (0 : Int).toNat = 0 := rfl
    have z1 : (1 : Int).toNat = 1 := rfl
    have hm := List.getElem_mem hlt
    by_cases h1 : l[i].1 < 0
    · simp only [c1, c4, h1, eds_len, eds_at hlt, normRows_eds, Qs, if_true, List.nodup_nil, Nat.reduceLeDiff, Nat.reduceBEq, Int.reduceLT, Int.reduceLE, vv f53r3.eq_1, vv f53r4.eq_1, uu f53b5.eq_1, uu f53b6.eq_1, vv f53r7.eq_1, uu f53b8.eq_1, uu f53b9.eq_1, uu f53b10.eq_1, uu f53b11.eq_1, vv f53r12.eq_1, uu f53b13.eq_1, uu f53b14.eq_1]
      exact fin hS (by rw [right_no hm (by omega)])
    by_cases h2 : l[i].1 ≥ n
    · simp only [c1, c4, h1, h2, eds_len, eds_at hlt, normRows_eds, Qs, if_true, if_false, List.nodup_nil, Nat.reduceLeDiff, Nat.reduceBEq, Int.reduceLT, Int.reduceLE, vv f53r3.eq_1, vv f53r4.eq_1, uu f53b5.eq_1, uu f53b6.eq_1, vv f53r7.eq_1, uu f53b8.eq_1, uu f53b9.eq_1, uu f53b10.eq_1, uu f53b11.eq_1, vv f53r12.eq_1, uu f53b13.eq_1, uu f53b14.eq_1]
      exact fin hS (by rw [right_no hm (by omega)])
    by_cases h3 : l[i].2 < 0
    · simp only [c1, c4, h1, h2, h3, eds_len, eds_at hlt, normRows_eds, Qs, if_true, if_false, List.nodup_nil, Nat.reduceAdd, Nat.reduceLeDiff, Nat.reduceBEq, Int.reduceLT, Int.reduceLE, Int.reduceToNat, vv f53r3.eq_1, vv f53r4.eq_1, uu f53b5.eq_1, uu f53b6.eq_1, vv f53r7.eq_1, uu f53b8.eq_1, uu f53b9.eq_1, uu f53b10.eq_1, uu f53b11.eq_1, vv f53r12.eq_1, uu f53b13.eq_1, uu f53b14.eq_1]
      exact fin hS (by rw [right_no hm (by omega)])
    by_cases h4 : l[i].2 ≥ n
    · simp only [c1, c4, h1, h2, h3, h4, eds_len, eds_at hlt, normRows_eds, Qs, if_true, if_false, List.nodup_nil, Nat.reduceAdd, Nat.reduceLeDiff, Nat.reduceBEq, Int.reduceLT, Int.reduceLE, Int.reduceToNat, vv f53r3.eq_1, vv f53r4.eq_1, uu f53b5.eq_1, uu f53b6.eq_1, vv f53r7.eq_1, uu f53b8.eq_1, uu f53b9.eq_1, uu f53b10.eq_1, uu f53b11.eq_1, vv f53r12.eq_1, uu f53b13.eq_1, uu f53b14.eq_1]
      exact fin hS (by rw [right_no hm (by omega)])
    · simp only [c1, c4, h1, h2, h3, h4, eds_len, eds_at hlt, normRows_eds, Qs, if_true, if_false, Nat.reduceAdd, Nat.reduceLeDiff, Nat.reduceBEq, Int.reduceLT, Int.reduceLE, Int.reduceToNat, vv f53r3.eq_1, uu f53b6.eq_1, vv f53r7.eq_1, uu f53b8.eq_1, uu f53b9.eq_1, uu f53b10.eq_1, uu f53b11.eq_1, vv f53r12.eq_1, uu f53b13.eq_1, uu f53b14.eq_1]
      refine Next.intro (i + 1) rfl rfl ⟨by omega, ?_⟩ (by omega)
      rw [List.take_succ_eq_append_getElem hlt, List.all_append, hd]
      simp [edgeOk]; omega
  · obtain rfl : i = l.length := by omega
    have c1 : ¬ (l.length : Int) < l.length := by omega
    rw [List.take_length] at hd
    simp only [c1, eds_len, Qs, if_true, List.nodup_nil, Nat.reduceBEq, vv f53r1.eq_1, uu f53b2.eq_1, uu f53b11.eq_1, vv f53r12.eq_1, uu f53b13.eq_1, uu f53b14.eq_1]
    refine fin hS ?_
    unfold rightG; rw [decide_eq_true (by omega), hd]; rfl
theorem upto_step (f : Int → List Int) (m : Nat) (b : Int) : upto f (m + 1) b = if f b ≠ [] then f b else upto f m (b + 1) := rfl
theorem e54 (n : Nat) (hn : n ≤ 1000) (es : List (Int × Int)) : ∀ (k : Nat) (l : List Int), l ≠ [] → l.length + k ≤ 2000 → (0 ≤ headI l ∧ headI l ≤ 1000) →
    Spec Try.prog 54 [.int .i64 n, lst 2 (eds es), lst 1 (ints l), .int .i64 k] (fun r => r = lst 1 (ints (closeR (edgeE es) n k l)))
  | k, l, hne, hlk, hh => by
    obtain ⟨p, hp⟩ : ∃ p, l.length = p + 1 := ⟨l.length - 1, by have := List.length_pos_iff.2 hne; omega⟩
    have c1 : IntKind.i64.wrap (((p + 1 : Nat) : Int) - 1) = (p : Int) := by rw [wrap_in (by omega) (by omega)]; omega
    have c2 : (0 : Int) ≤ (p : Int) := by omega
    have c3 : (p : Int) < ((p + 1 : Nat) : Int) := by omega
    have hla : (ints l).getD p [] = [.int .i64 (lastI l)] := by rw [ints_getD (by omega)]; unfold lastI; rw [hp]; rfl
    have hha : (ints l).getD 0 [] = [.int .i64 (headI l)] := by rw [ints_getD (by omega)]; rfl
    have z0 : (0 : Int).toNat = 0 := rfl
    have z1 : (0 : Int) < ((p + 1 : Nat) : Int) := by omega
    refine Spec.of_awlP hf54 okf54 (by simp) fun S hS => ?_
    cases k with
    | zero =>
      have k0 : (((0 : Nat) : Int) == 0) = true := rfl
      simp only [c1, c2, c3, k0, z0, z1, hp, hla, hha, ints_len, normRows_eds, normRows_ints, Int.toNat_natCast, Qs, if_true, BEq.rfl, Nat.reduceAdd, Nat.reduceBEq, Int.reduceLE, uu f54.eq_1, vv f54r30.eq_1, uu f54b31.eq_1, uu f54b32.eq_1, uu f54b33.eq_1, vv f54r34.eq_1, uu f54b35.eq_1, uu f54b36.eq_1, vv f54r37.eq_1, uu f54b38.eq_1, vv f54r39.eq_1, uu f54b40.eq_1]
      refine call_s (e23 es (lastI l) (headI l)) ?_ (ha := by simp [lendL, V.norm, lst, normRows_eds])
      rw [closeR] at hS
      cases he : edgeE es (lastI l) (headI l) with
      | false =>
        rw [he, if_neg (by simp)] at hS
        simp only [Qs, if_true, BEq.rfl, List.nodup_nil, List.nodup_cons, Nat.reduceBEq, List.not_mem_nil, vv f54r25.eq_1, uu f54b26.eq_1, uu f54b29.eq_1]
        exact hS _ rfl
      | true =>
        rw [he, if_pos rfl] at hS
        simp only [Qs, List.nodup_nil, Nat.reduceBEq, vv f54r27.eq_1, uu f54b28.eq_1, uu f54b29.eq_1]
        exact hS _ (by simp [V.fz, V.nrm, Abs.K.fz, Abs.K.nrm, norm_list])
    | succ k =>
      have k0 : (((k + 1 : Nat) : Int) == 0) = false := by simp; omega
      have c5 : IntKind.i64.wrap (headI l + 1) = headI l + 1 := wrap_in (by omega) (by omega)
      have c6 : IntKind.i64.wrap (((k + 1 : Nat) : Int) - 1) = (k : Int) := by rw [wrap_in (by omega) (by omega)]; omega
      rw [closeR] at hS
      generalize htg : upto (fun b => if edgeE es (lastI l) b = true then closeR (edgeE es) n k (l ++ [b]) else []) ((n : Int) - (headI l + 1)).toNat (headI l + 1) = target at hS
      simp only [c1, c2, c3, c5, k0, z0, z1, hp, hla, hha, ints_len, normRows_eds, normRows_ints, Int.toNat_natCast, Qs, if_true, Nat.reduceAdd, Nat.reduceBEq, Int.reduceLE, uu f54.eq_1, uu f54b21.eq_1, vv f54r22.eq_1, uu f54b23.eq_1, uu f54b24.eq_1, uu f54b33.eq_1, vv f54r34.eq_1, uu f54b35.eq_1, uu f54b36.eq_1, vv f54r37.eq_1, uu f54b38.eq_1, vv f54r39.eq_1, uu f54b40.eq_1]
      rw [uu f54l20.eq_1]
      refine awl_loop (fun b : Int => [(0, .int .i64 n), (1, lst 2 (eds es)), (2, lst 1 (ints l)), (3, .int .i64 (k + 1 : Nat)), (9, .int .i64 (lastI l)), (10, .int .i64 b)]) (fun _ => []) (fun b => 0 ≤ b ∧ b ≤ 2000 ∧ upto (fun b => if edgeE es (lastI l) b = true then closeR (edgeE es) n k (l ++ [b]) else []) ((n : Int) - b).toNat b = target) (fun b => ((n : Int) - b).toNat) (headI l + 1) rfl rfl ⟨by omega, by omega, htg⟩ ?_
      rintro b ⟨hb0, hb1, hb⟩
      by_cases hlt : b < n
      · have d4 : IntKind.i64.wrap (b + 1) = b + 1 := wrap_in (by omega) (by omega)
        obtain ⟨m, hm⟩ : ∃ m, ((n : Int) - b).toNat = m + 1 := ⟨((n : Int) - b).toNat - 1, by omega⟩
        have hm2 : ((n : Int) - (b + 1)).toNat = m := by omega
        rw [hm, upto_step] at hb
        simp only [hlt, d4, normRows_eds, Qs, if_true, Nat.reduceBEq, vv f54r3.eq_1, vv f54r12.eq_1, uu f54b13.eq_1, uu f54b14.eq_1, uu f54b15.eq_1, uu f54b16.eq_1, vv f54r17.eq_1, uu f54b18.eq_1, uu f54b19.eq_1]
        refine call_s (e23 es (lastI l) b) ?_ (ha := by simp [lendL, V.norm, lst, normRows_eds])
        cases he : edgeE es (lastI l) b with
        | false =>
          rw [he, if_neg (by simp)] at hb
          simp only [d4, Qs, if_true, Nat.reduceBEq, uu f54b11.eq_1]
          exact Next.intro (b + 1) rfl rfl ⟨by omega, by omega, by rw [hm2]; simpa using hb⟩ (by omega)
        | true =>
          rw [he, if_pos rfl] at hb
          have q1 : l.length ≤ 9223372036854775807 := by omega
          have q2 : l.length * 8 ≤ 140737488355328 := by omega
          have q3 : l.length + 1 ≤ 9223372036854775807 := by omega
          have q4 : (l.length + 1) * 8 ≤ 140737488355328 := by omega
          have ih := e54 n hn es k (l ++ [b]) (by simp) (by simp; omega) (by rw [headI_snoc hne]; exact hh)
          simp only [d4, c6, q1, q2, q3, q4, ints_len, ints_append, ints_snoc, normRows_eds, Qs, q_K_noRef_eq_8, if_true, if_false, implies_true, forall_eq, bne_iff_ne, ne_eq, List.mem_cons, Nat.reduceEqDiff, Nat.reduceLT, Nat.reduceBEq, r_srcV_lst, List.not_mem_nil, implies_true, vv f54r9.eq_1, uu f54b10.eq_1, uu f54b11.eq_1]
          refine call_o 42 (by simp [look, lookT]) ih (by simp [lendL, lendO, lookO, V.isPure]) (by simp [lendL, lendO, lookO, V.norm, norm_list, lst, normRows_eds]) (by simp [V.toks, Abs.K.toks]) (by simp [lookO, plainO]) rfl ?_
          by_cases hr : closeR (edgeE es) n k (l ++ [b]) = []
          · rw [if_neg (by simpa using hr)] at hb
            rw [hr]
            have r0 : ¬ (([] : List Int).length : Int) > 0 := by simp
            simp only [d4, r0, ints_len, Qs, if_true, if_false, Nat.reduceEqDiff, Nat.reduceBEq, Int.reduceGT, z_K_dead, uu f54b6.eq_1, vv f54r7.eq_1, uu f54b8.eq_1]
            exact Next.intro (b + 1) rfl rfl ⟨by omega, by omega, by rw [hm2]; exact hb⟩ (by omega)
          · rw [if_pos hr] at hb
            have r0 : ((closeR (edgeE es) n k (l ++ [b])).length : Int) > 0 := by have := List.length_pos_iff.2 hr; omega
            rw [← hb] at hS
            simp only [d4, r0, ints_len, Qs, if_true, if_false, List.nodup_nil, Nat.reduceEqDiff, Nat.reduceBEq, z_K_dead, vv f54r4.eq_1, uu f54b5.eq_1, uu f54b6.eq_1, vv f54r7.eq_1, uu f54b8.eq_1]
            exact hS _ (by simp [V.fz, V.nrm, Abs.K.fz, Abs.K.nrm, norm_list])
      · have hz : ((n : Int) - b).toNat = 0 := by omega
        rw [hz, upto] at hb
        rw [← hb] at hS
        simp only [hlt, Qs, if_true, List.nodup_nil, List.nodup_cons, Nat.reduceBEq, List.not_mem_nil, vv f54r1.eq_1, uu f54b2.eq_1, uu f54b16.eq_1, vv f54r17.eq_1, uu f54b18.eq_1, uu f54b19.eq_1]
        exact hS _ rfl
theorem e42 (n : Nat) (es : List (Int × Int)) : Spec Try.prog 42 [.int .i64 n, lst 2 (eds es)] (fun r => r = lst 1 (ints (if rightG n es = true then cycR (edgeE es) n else []))) := by
  refine Spec.of_awlP hf42 okf42 (by simp) fun S hS => ?_
  simp only [normRows_eds, Qs, Nat.reduceAdd, Nat.reduceBEq, uu f42.eq_1, vv f42r36.eq_1, uu f42b37.eq_1, uu f42b38.eq_1, vv f42r39.eq_1, uu f42b40.eq_1]
  refine call_s (e53 n es) ?_ (ha := by simp [lendL, V.norm, lst, normRows_eds])
  cases hr : rightG n es with
  | false =>
    rw [hr, if_neg (by simp)] at hS
    simp only [Qs, if_true, BEq.rfl, List.nodup_nil, List.nodup_cons, Nat.reduceBEq, List.not_mem_nil, vv f42r33.eq_1, uu f42b34.eq_1, uu f42b35.eq_1]
    exact hS _ rfl
  | true =>
    rw [hr, if_pos rfl] at hS
    have hn : n ≤ 300 := by have := (rightG_yes hr).1; omega
    obtain ⟨target, htg⟩ : ∃ x, cycR (edgeE es) n = x := ⟨_, rfl⟩
    rw [htg] at hS
    unfold cycR at htg
    simp only [normRows_eds, Qs, uu f42b29.eq_1, vv f42r30.eq_1, uu f42b31.eq_1, uu f42b32.eq_1, uu f42b35.eq_1]
    rw [uu f42l28.eq_1]
    refine awl_loop (fun len : Int => [(0, .int .i64 n), (1, lst 2 (eds es)), (5, .int .i64 len)]) (fun _ => []) (fun len => 1 ≤ len ∧ len ≤ 301 ∧ upto (fun len => upto (fun a => closeR (edgeE es) n (len.toNat - 1) [a]) n 0) ((n : Int) + 1 - len).toNat len = target) (fun len => ((n : Int) + 1 - len).toNat) 1 rfl rfl ⟨by omega, by omega, by rw [show ((n : Int) + 1 - 1).toNat = n by omega]; exact htg⟩ ?_
    rintro len ⟨l0, l1, hl⟩
    by_cases hlt : len ≤ n
    · have d4 : IntKind.i64.wrap (len + 1) = len + 1 := wrap_in (by omega) (by omega)
      obtain ⟨m, hm⟩ : ∃ m, ((n : Int) + 1 - len).toNat = m + 1 := ⟨((n : Int) + 1 - len).toNat - 1, by omega⟩
      have hm2 : ((n : Int) + 1 - (len + 1)).toNat = m := by omega
      have d5 : IntKind.i64.wrap (len - 1) = ((len.toNat - 1 : Nat) : Int) := by rw [wrap_in (by omega) (by omega)]; omega
      rw [hm, upto_step] at hl
      generalize hin : upto (fun a => closeR (edgeE es) n (len.toNat - 1) [a]) n 0 = inner at hl
      have hk : len.toNat - 1 ≤ 1000 := by omega
      generalize len.toNat - 1 = k at d5 hin hk
      simp only [hlt, normRows_eds, Qs, if_true, Nat.reduceBEq, vv f42r3.eq_1, uu f42b19.eq_1, vv f42r20.eq_1, uu f42b21.eq_1, uu f42b22.eq_1, uu f42b23.eq_1, uu f42b24.eq_1, vv f42r25.eq_1, uu f42b26.eq_1, uu f42b27.eq_1]
      rw [uu f42l18.eq_1]
      refine awl_loop (fun a : Int => [(0, .int .i64 n), (1, lst 2 (eds es)), (5, .int .i64 len), (6, .int .i64 a)]) (fun _ => []) (fun a => 0 ≤ a ∧ a ≤ 300 ∧ upto (fun a => closeR (edgeE es) n k [a]) ((n : Int) - a).toNat a = inner) (fun a => ((n : Int) - a).toNat) 0 rfl rfl ⟨by omega, by omega, by rw [show ((n : Int) - 0).toNat = n by omega]; exact hin⟩ ?_
      rintro a ⟨a0, a1, ha⟩
      by_cases hat : a < n
      · have e4 : IntKind.i64.wrap (a + 1) = a + 1 := wrap_in (by omega) (by omega)
        obtain ⟨q, hq⟩ : ∃ q, ((n : Int) - a).toNat = q + 1 := ⟨((n : Int) - a).toNat - 1, by omega⟩
        have hq2 : ((n : Int) - (a + 1)).toNat = q := by omega
        rw [hq, upto_step] at ha
        have ih := e54 n (by omega) es k [a] (by simp) (by simp; omega) ⟨a0, by show a ≤ 1000; omega⟩
        simp only [hat, e4, d5, normRows_eds, Qs, if_true, forall_eq, List.mem_cons, Nat.reduceLT, Nat.reduceBEq, List.not_mem_nil, vv f42r4.eq_1, vv f42r10.eq_1, uu f42b11.eq_1, uu f42b12.eq_1, uu f42b13.eq_1, uu f42b14.eq_1, vv f42r15.eq_1, uu f42b16.eq_1, uu f42b17.eq_1]
        refine call_o 25 (by simp [look, lookT]) ih (by simp [lendL, lendO, lookO, V.isPure]) (by simp [lendL, lendO, lookO, V.norm, norm_list, lst, normRows_eds, ints]) (by simp [V.toks, Abs.K.toks]) (by simp [lookO, plainO]) rfl ?_
        by_cases hr : closeR (edgeE es) n k [a] = []
        · rw [if_neg (by simpa using hr)] at ha
          rw [hr]
          have r0 : ¬ (([] : List Int).length : Int) > 0 := by simp
          simp only [e4, r0, ints_len, Qs, if_true, Nat.reduceBEq, Int.reduceGT, uu f42b7.eq_1, vv f42r8.eq_1, uu f42b9.eq_1]
          exact Next.intro (a + 1) rfl rfl ⟨by omega, by omega, by rw [hq2]; exact ha⟩ (by omega)
        · rw [if_pos hr] at ha
          have r0 : ((closeR (edgeE es) n k [a]).length : Int) > 0 := by have := List.length_pos_iff.2 hr; omega
          rw [if_pos (by rw [← ha]; exact hr)] at hl
          rw [← hl, ← ha] at hS
          simp only [e4, r0, ints_len, Qs, q_List_isEmpty_cons, if_true, if_false, List.nodup_nil, Nat.reduceBEq, vv f42r5.eq_1, uu f42b6.eq_1, uu f42b7.eq_1, vv f42r8.eq_1, uu f42b9.eq_1]
          exact hS _ (by simp [V.fz, V.nrm, Abs.K.fz, Abs.K.nrm, norm_list])
      · have hz : ((n : Int) - a).toNat = 0 := by omega
        rw [hz, upto] at ha
        rw [← ha, if_neg (by simp)] at hl
        simp only [hat, d4, Qs, if_true, if_false, reduceCtorEq, Nat.reduceBEq, uu f42b14.eq_1, vv f42r15.eq_1, uu f42b16.eq_1, uu f42b17.eq_1]
        exact Next.intro (len + 1) rfl rfl ⟨by omega, by omega, by rw [hm2]; exact hl⟩ (by omega)
    · have hz : ((n : Int) + 1 - len).toNat = 0 := by omega
      rw [hz, upto] at hl
      rw [← hl] at hS
      simp only [hlt, Qs, if_true, List.nodup_nil, List.nodup_cons, Nat.reduceBEq, List.not_mem_nil, vv f42r1.eq_1, uu f42b2.eq_1, uu f42b24.eq_1, vv f42r25.eq_1, uu f42b26.eq_1, uu f42b27.eq_1]
      exact hS _ rfl
theorem e21 (l : List Dr) : Spec Try.prog 21 [lst 6 (drs l)] (fun r => r = lst 1 (ints (ringG l))) := by
  refine Spec.of_awlP hf21 okf21 (by simp) fun S hS => ?_
  unfold ringG at hS
  simp only [normRows_drs, Qs, Nat.reduceBEq, uu f21.eq_1, vv f21r21.eq_1, uu f21b22.eq_1, uu f21b23.eq_1, vv f21r24.eq_1, uu f21b25.eq_1]
  refine call_s (d11 l) ?_ (ha := by simp [lendL, lendO, lookO, V.norm, norm_list, lst, normRows_drs])
  by_cases h : chkG l = 0
  case neg =>
    have hb : (chkG l != 0) = true := by simpa using h
    rw [if_neg h] at hS
    simp only [hb, Qs, if_true, BEq.rfl, List.nodup_nil, List.nodup_cons, Nat.reduceBEq, List.not_mem_nil, vv f21r18.eq_1, uu f21b19.eq_1, uu f21b20.eq_1]
    exact hS _ rfl
  have hb : (chkG l != 0) = false := by simpa using h
  rw [if_pos h] at hS
  have hR := right_of h
  have hll := hR.len
  obtain ⟨rb1, rb2⟩ := ring_both hR
  rw [rb1] at hS
  simp only [hb, drs_len, normRows_drs, Qs, if_true, uu f21b12.eq_1, vv f21r13.eq_1, uu f21b14.eq_1, uu f21b15.eq_1, vv f21r16.eq_1, uu f21b17.eq_1, uu f21b20.eq_1]
  rw [uu f21l11.eq_1]
  refine awl_loop (fun i : Nat => [(0, lst 6 (drs l)), (3, .int .i64 (maxF (l.take i))), (4, .int .i64 i)]) (fun _ => []) (fun i => i ≤ l.length) (fun i => l.length - i) 0 rfl rfl (Nat.zero_le _) ?_
  intro i hi
  by_cases hlt : i < l.length
  · have c1 : (i : Int) < l.length := by omega
    have c3 : (0 : Int) ≤ (i : Int) := by omega
    have c4 : IntKind.i64.wrap ((i : Int) + 1) = (i : Int) + 1 := wrap_in (by omega) (by omega)
    have hat := drs_nat hlt
    have hm := maxF_take hlt
    obtain ⟨m1, m2, _⟩ := maxF_facts hR.firm i hi
    have hf := hR.firm _ (dat_mem (l := l) (i := (i : Int)) (by omega) (by omega))
    generalize dat l (i : Int) = x at hat hm hf
    have e1 : (if x.a > x.d then x.a else x.d) = max x.d x.a := by split <;> omega
    have e2 : IntKind.i64.wrap (max x.d x.a + 1) = max x.d x.a + 1 := wrap_in (by omega) (by omega)
    have e3 : (if max x.d x.a + 1 > maxF (l.take i) then max x.d x.a + 1 else maxF (l.take i)) = maxF (l.take (i + 1)) := by rw [hm]; split <;> omega
    simp only [c1, c3, c4, hat, drs_len, normRows_drs, e1, e2, e3, Int.toNat_natCast, Qs, q_exLQ_eq_37, if_true, Nat.reduceAdd, Nat.reduceLeDiff, Nat.reduceBEq, vv f21r3.eq_1, vv f21r4.eq_1, uu f21b5.eq_1, uu f21b6.eq_1, uu f21b7.eq_1, vv f21r8.eq_1, uu f21b9.eq_1, uu f21b10.eq_1]
    exact Next.intro (i + 1) rfl rfl (by omega) (by omega)
  · obtain rfl : i = l.length := by omega
    have c1 : ¬ (l.length : Int) < l.length := by omega
    obtain ⟨m1, m2, m3⟩ := maxF_facts hR.firm l.length (Nat.le_refl _)
    rw [List.take_length] at m1 m2 ⊢
    obtain ⟨n, hn⟩ : ∃ n : Nat, maxF l = n := ⟨(maxF l).toNat, by omega⟩
    have hn2 : (maxF l).toNat = n := by omega
    rw [hn2] at hS rb2
    rw [hn]
    have g42 := e42 n (edgesD l)
    have hrg : rightG (n : Int) (edgesD l) = true := by
      unfold rightG
      rw [Bool.and_eq_true, decide_eq_true_eq, List.all_eq_true, edgesD_len]
      refine ⟨by omega, fun p hp => ?_⟩
      have := rb2 p hp
      unfold edgeOk
      rw [decide_eq_true_eq]; exact this
    rw [hrg, if_pos rfl] at g42
    simp only [c1, drs_len, normRows_drs, Qs, if_true, Nat.reduceBEq, vv f21r1.eq_1, uu f21b2.eq_1, uu f21b7.eq_1, vv f21r8.eq_1, uu f21b9.eq_1, uu f21b10.eq_1]
    refine call_r (e24 l (by omega)) ?_ (ha := by simp [lendL, V.norm, lst, normRows_drs])
    simp only [normRows_eds, Qs, Nat.reduceBEq]
    refine call_r g42 ?_ (ha := by simp [lendL, V.norm, lst, normRows_eds])
    simp only [Qs, List.nodup_nil]
    exact hS _ (by simp [V.fz, V.nrm, Abs.K.fz, Abs.K.nrm, norm_list])
end Go.Abs


set_option maxRecDepth 100000
set_option maxHeartbeats 4000000
namespace Go.Abs
open Go.Proofs Go.RowKit
theorem upR_eq (l : List Dr) (first : Int) (m : Nat) (out : List Int) : upR l first (m + 1) out = if hdI out > first then (if (dat l (hdI out)).c < first then [] else upR l first m ((dat l (hdI out)).c :: out)) else out := rfl
theorem d35 (l : List Dr) (hR : RightD l) (first last : Int) (h0 : 0 ≤ first) (h1 : first ≤ last) (hx : last < l.length) : Spec Try.prog 35 [lst 6 (drs l), .int .i64 first, .int .i64 last] (fun r => r = lst 1 (ints (chainR l first last))) := by
  refine Spec.of_awlP hf35 okf35 (by simp) fun S hS => ?_
  have hll := hR.len
  unfold chainR at hS
  generalize htg : upR l first (last - first).toNat [last] = target at hS
  simp only [normRows_drs, Qs, if_true, if_false, forall_eq, bne_iff_ne, ne_eq, List.mem_cons, Nat.reduceAdd, Nat.reduceEqDiff, Nat.reduceLT, Nat.reduceBEq, List.not_mem_nil, uu f35.eq_1, uu f35b19.eq_1, uu f35b20.eq_1, vv f35r21.eq_1, uu f35b22.eq_1, vv f35r23.eq_1, uu f35b24.eq_1]
  rw [uu f35l18.eq_1]
  refine awl_loop (fun z : Nat × List Int × Bool => [(0, lst 6 (drs l)), (1, .int .i64 first), (7, if z.2.2 = true then .k (.own 27) else .list 1 (some false) (ints z.2.1))]) (fun z => if z.2.2 = true then [(27, .arr 3 1 (some false) (ints z.2.1))] else [])
    (fun z => z.2.1 ≠ [] ∧ first ≤ hdI z.2.1 ∧ hdI z.2.1 < l.length ∧ hdI z.2.1 ≤ first + z.1 ∧ z.2.1.length + z.1 ≤ 201 ∧ upR l first z.1 z.2.1 = target) (fun z => z.1) ((last - first).toNat, [last], false) rfl rfl ⟨by simp, h1, hx, by show last ≤ _; omega, by simp; omega, htg⟩ ?_
  rintro ⟨m, out, fl⟩ ⟨hne, g1, g2, g3, g4, hu⟩
  simp only [] at hne g1 g2 g3 g4 hu
  have hpos := List.length_pos_iff.2 hne
  have hh : (ints out).getD 0 [] = [.int .i64 (hdI out)] := by rw [ints_getD hpos]; rfl
  have z0 : (0 : Int).toNat = 0 := rfl
  have z1 : (0 : Int) < (out.length : Int) := by omega
  have e1 : (ints out).isEmpty = false := by cases out with
    | nil => exact absurd rfl hne
    | cons => rfl
  cases fl
  all_goals
    simp only [if_true, if_false, Bool.false_eq_true]
    by_cases hgt : hdI out > first
    · obtain ⟨m, rfl⟩ : ∃ m', m = m' + 1 := ⟨m - 1, by omega⟩
      rw [upR_eq, if_pos hgt] at hu
      have i0 : 0 ≤ hdI out := by omega
      have hat := drs_dat i0 g2
      have hcv := hR.cov _ i0 g2
      by_cases hlt : (dat l (hdI out)).c < first
      · rw [if_pos hlt] at hu
        rw [← hu] at hS
        simp only [z0, z1, hh, hgt, i0, g2, hat, hlt, drs_len, ints_len, normRows_drs, Qs, if_true, ne_eq, List.nodup_nil, List.nodup_cons, Nat.reduceAdd, Nat.reduceBEq, Int.reduceLE, List.not_mem_nil, vv f35r3.eq_1, vv f35r4.eq_1, uu f35b5.eq_1, uu f35b6.eq_1, vv f35r7.eq_1, uu f35b8.eq_1, uu f35b9.eq_1, vv f35r10.eq_1, uu f35b11.eq_1, uu f35b12.eq_1, uu f35b13.eq_1, vv f35r14.eq_1, uu f35b15.eq_1, uu f35b16.eq_1, uu f35b17.eq_1]
        exact hS _ rfl
      · rw [if_neg hlt] at hu
        have q1 : 1 + out.length ≤ 9223372036854775807 := by omega
        have q2 : (1 + out.length) * 8 ≤ 140737488355328 := by omega
        have hnl : nlApp (some false) (ints out) = some false := by cases out <;> rfl
        have hcs : [C.int .i64 (dat l (hdI out)).c] :: ints out = ints ((dat l (hdI out)).c :: out) := rfl
        simp only [z0, z1, hh, hgt, i0, g2, hat, hlt, q1, q2, hnl, hcs, drs_len, ints_len, normRows_drs, Qs, if_true, forall_eq, true_or, ne_eq, List.mem_cons, Nat.reduceAdd, Nat.reduceLT, Nat.reduceBEq, Int.reduceLE, List.not_mem_nil, vv f35r3.eq_1, uu f35b6.eq_1, vv f35r7.eq_1, uu f35b8.eq_1, uu f35b9.eq_1, vv f35r10.eq_1, uu f35b11.eq_1, uu f35b12.eq_1, uu f35b13.eq_1, vv f35r14.eq_1, uu f35b15.eq_1, uu f35b16.eq_1, uu f35b17.eq_1]
        exact Next.intro (m, (dat l (hdI out)).c :: out, true) rfl rfl ⟨by simp, by show first ≤ (dat l (hdI out)).c; omega, by show (dat l (hdI out)).c < _; omega, by show (dat l (hdI out)).c ≤ _; push_cast at g3; omega, by simp; omega, hu⟩ (Nat.lt_succ_self m)
    · have e : out = target := by
        cases m with
        | zero => exact hu
        | succ m => rw [upR_eq, if_neg hgt] at hu; exact hu
      rw [← e] at hS
      simp only [z0, z1, hh, hgt, ints_len, Qs, if_true, ne_eq, List.nodup_nil, Nat.reduceBEq, Int.reduceLE, vv f35r1.eq_1, uu f35b2.eq_1, uu f35b13.eq_1, vv f35r14.eq_1, uu f35b15.eq_1, uu f35b16.eq_1, uu f35b17.eq_1]
      exact hS _ (by simp [V.fz, V.nrm, Abs.K.fz, Abs.K.nrm, norm_list, lstC])
theorem d47 (l : List Dr) (hR : RightD l) (first last : Int) (h0 : 0 ≤ first) (h1 : first ≤ last) (hx : last < l.length) : Spec Try.prog 47 [lst 6 (drs l), .int .i64 first, .int .i64 last] (fun r => r = .bool (closesR l first last)) := by
  refine Spec.of_awlS hf47 okf47 (by simp) fun S hS => ?_
  unfold closesR at hS
  have g35 := d35 l hR first last h0 h1 hx
  have i1 : first < (l.length : Int) := by omega
  have i2 : 0 ≤ last := by omega
  have ha := drs_dat h0 i1
  have hb := drs_dat i2 hx
  simp only [normRows_drs, Qs, Nat.reduceAdd, Nat.reduceBEq, uu f47.eq_1, vv f47r1.eq_1, uu f47b2.eq_1, vv f47r3.eq_1, uu f47b4.eq_1]
  refine callQ_l g35 ?_ (ha := by simp [lendL, V.norm, lst, normRows_drs])
  by_cases hg : ((chainR l first last).length : Int) > 1
  · have hg' : (chainR l first last).length > 1 := by omega
    rw [decide_eq_true hg', Bool.true_and] at hS
    by_cases he : (dat l last).a = (dat l first).d
    · have he' : ((dat l last).a == (dat l first).d) = true := by simpa using he
      rw [decide_eq_true he] at hS
      simp only [hg, he', h0, i1, i2, hx, ha, hb, V.fz, Abs.K.fz, drs_len, ints_len, normRows_drs, Qs, if_true, List.nodup_nil, Nat.reduceAdd, Nat.reduceLeDiff, Nat.reduceBEq]
      exact hS
    · have he' : ((dat l last).a == (dat l first).d) = false := by simpa using he
      rw [decide_eq_false he] at hS
      simp only [hg, he', h0, i1, i2, hx, ha, hb, V.fz, Abs.K.fz, drs_len, ints_len, normRows_drs, Qs, if_true, List.nodup_nil, Nat.reduceAdd, Nat.reduceLeDiff, Nat.reduceBEq]
      exact hS
  · have hg' : ¬ (chainR l first last).length > 1 := by omega
    rw [decide_eq_false hg', Bool.false_and] at hS
    simp only [hg, V.fz, Abs.K.fz, ints_len, Qs, if_true, List.nodup_nil, Nat.reduceBEq]
    exact hS
theorem bef_take {a b : List Int} {i : Nat} (h : i < a.length) (h2 : i < b.length) : bef (a.drop i) (b.drop i) = if a[i] ≠ b[i] then decide (a[i] < b[i]) else bef (a.drop (i + 1)) (b.drop (i + 1)) := by
  rw [List.drop_eq_getElem_cons h, List.drop_eq_getElem_cons h2, bef]
theorem bef_end {a b : List Int} {i : Nat} (h : ¬ (i < a.length ∧ i < b.length)) : bef (a.drop i) (b.drop i) = false := by
  rcases Nat.lt_or_ge i a.length with g | g
  · have : b.drop i = [] := List.drop_of_length_le (by omega)
    rw [this]
    cases a.drop i <;> rfl
  · have : a.drop i = [] := List.drop_of_length_le g
    rw [this]; rfl
theorem d48 (a b : List Int) : Spec Try.prog 48 [lst 1 (ints a), lst 1 (ints b)] (fun r => r = .bool (bef a b)) := by
  refine Spec.of_len hf48 fun hlen => ?_
  have hl := len_lst (sz := 1) (rows := ints a) (by simp) hlen
  rw [ints_len] at hl
  clear hlen
  refine Spec.of_awlS hf48 okf48 (by simp) fun S hS => ?_
  simp only [ints_len, Qs, Nat.reduceAdd, uu f48.eq_1, uu f48b16.eq_1, vv f48r17.eq_1, uu f48b18.eq_1, uu f48b19.eq_1, vv f48r20.eq_1, uu f48b21.eq_1]
  rw [uu f48l15.eq_1]
  refine awl_loop (fun i : Nat => [(0, lst 1 (ints a)), (1, lst 1 (ints b)), (5, .int .i64 i)]) (fun _ => []) (fun i => i ≤ a.length ∧ bef (a.drop i) (b.drop i) = bef a b) (fun i => a.length - i) 0 rfl rfl ⟨Nat.zero_le _, rfl⟩ ?_
  rintro i ⟨hi, hd⟩
  by_cases h1 : i < a.length
  · have c1 : (i : Int) < a.length := by omega
    by_cases h2 : i < b.length
    · have c2 : (i : Int) < b.length := by omega
      have c3 : (0 : Int) ≤ (i : Int) := by omega
      have c4 : IntKind.i64.wrap ((i : Int) + 1) = (i : Int) + 1 := wrap_in (by omega) (by omega)
      rw [bef_take h1 h2] at hd
      by_cases e : a[i] = b[i]
      · have e' : (a[i] != b[i]) = false := by simp [e]
        rw [if_neg (by simpa using e)] at hd
        simp only [c1, c2, c3, c4, e', ints_len, ints_at h1, ints_at h2, Int.toNat_natCast, Qs, if_true, Nat.reduceBEq, vv f48r3.eq_1, uu f48b6.eq_1, vv f48r7.eq_1, uu f48b8.eq_1, uu f48b9.eq_1, uu f48b10.eq_1, uu f48b11.eq_1, vv f48r12.eq_1, uu f48b13.eq_1, uu f48b14.eq_1]
        exact Next.intro (i + 1) rfl rfl ⟨by omega, hd⟩ (by omega)
      · have e' : (a[i] != b[i]) = true := by simp [e]
        rw [if_pos e] at hd
        simp only [c1, c2, c3, c4, e', ints_len, ints_at h1, ints_at h2, Int.toNat_natCast, Qs, if_true, List.nodup_nil, Nat.reduceBEq, vv f48r3.eq_1, vv f48r4.eq_1, uu f48b5.eq_1, uu f48b6.eq_1, vv f48r7.eq_1, uu f48b8.eq_1, uu f48b9.eq_1, uu f48b10.eq_1, uu f48b11.eq_1, vv f48r12.eq_1, uu f48b13.eq_1, uu f48b14.eq_1]
        exact fin hS (by rw [← hd])
    · have c2 : ¬ (i : Int) < b.length := by omega
      rw [bef_end (by omega)] at hd
      simp only [c1, c2, ints_len, Qs, if_true, List.nodup_nil, Nat.reduceBEq, vv f48r1.eq_1, uu f48b2.eq_1, uu f48b11.eq_1, vv f48r12.eq_1, uu f48b13.eq_1, uu f48b14.eq_1]
      exact fin hS (by rw [← hd])
  · have c1 : ¬ (i : Int) < a.length := by omega
    rw [bef_end (by omega)] at hd
    simp only [c1, ints_len, Qs, if_true, List.nodup_nil, Nat.reduceBEq, vv f48r1.eq_1, uu f48b2.eq_1, uu f48b11.eq_1, vv f48r12.eq_1, uu f48b13.eq_1, uu f48b14.eq_1]
    exact fin hS (by rw [← hd])
end Go.Abs


set_option maxRecDepth 100000
set_option maxHeartbeats 4000000
namespace Go.Abs
open Go.Proofs Go.RowKit
theorem kiteR_false {l : List Dr} {first last : Int} {i j : Nat} (hij : i < j) (hj : j < (chainR l first last).length) (hs : j - i + 1 < (chainR l first last).length) (hc : closesR l ((chainR l first last).getD i 0) ((chainR l first last).getD j 0) = true) : kiteR l first last = false := by
  unfold kiteR
  rw [Bool.and_eq_false_iff]
  right
  rw [List.all_eq_false]
  refine ⟨i, List.mem_range.2 (by omega), ?_⟩
  simp only [Bool.not_eq_true, List.all_eq_false]
  refine ⟨j, List.mem_range.2 hj, ?_⟩
  rw [hc, decide_eq_true hij, decide_eq_true hs]; simp
theorem kiteR_true {l : List Dr} {first last : Int} (h0 : closesR l first last = true) (h : ∀ i j, i < j → j < (chainR l first last).length → j - i + 1 < (chainR l first last).length → closesR l ((chainR l first last).getD i 0) ((chainR l first last).getD j 0) = false) : kiteR l first last = true := by
  unfold kiteR
  rw [h0, Bool.true_and, List.all_eq_true]
  intro i _
  rw [List.all_eq_true]
  intro j hj
  have hj := List.mem_range.1 hj
  by_cases hij : i < j
  · by_cases hs : j - i + 1 < (chainR l first last).length
    · rw [h i j hij hj hs]; simp
    · rw [decide_eq_false hs]; simp
  · rw [decide_eq_false hij]; simp
theorem d36 (l : List Dr) (hR : RightD l) (first last : Int) (h0 : 0 ≤ first) (h1 : first ≤ last) (hx : last < l.length) : Spec Try.prog 36 [lst 6 (drs l), .int .i64 first, .int .i64 last] (fun r => r = .bool (kiteR l first last)) := by
  refine Spec.of_awlS hf36 okf36 (by simp) fun S hS => ?_
  have hll := hR.len
  have g35 := d35 l hR first last h0 h1 hx
  simp only [normRows_drs, Qs, Nat.reduceAdd, Nat.reduceBEq, uu f36.eq_1, vv f36r36.eq_1, uu f36b37.eq_1, uu f36b38.eq_1, vv f36r39.eq_1, uu f36b40.eq_1]
  refine call_s (d47 l hR first last h0 h1 hx) ?_ (ha := by simp [lendL, V.norm, lst, normRows_drs])
  cases hcl : closesR l first last with
  | false =>
    have : kiteR l first last = false := by unfold kiteR; rw [hcl, Bool.false_and]
    rw [this] at hS
    simp only [Qs, List.nodup_nil, vv f36r33.eq_1, uu f36b34.eq_1, uu f36b35.eq_1]
    exact hS
  | true =>
    have hfacts : (chainR l first last).length ≤ 100 ∧ ∀ i j, i < j → j < (chainR l first last).length → 0 ≤ (chainR l first last).getD i 0 ∧ (chainR l first last).getD i 0 ≤ (chainR l first last).getD j 0 ∧ (chainR l first last).getD j 0 < l.length := by
      rcases chainR_spec hR.cov h0 h1 hx with ⟨e, _⟩ | ⟨k, e, hv, _⟩
      · rw [e]; exact ⟨by simp, fun i j _ h => absurd h (by simp)⟩
      · rw [e, chn_len]
        have hk := hv.dec hR.cov k (Nat.le_refl k)
        have hk2 := hv.2 k (Nat.le_refl k)
        refine ⟨by omega, fun i j hij hj => ?_⟩
        rw [chn_getD (by omega), chn_getD (by omega)]
        have r1 := hv.rng hR.cov (j := k - i) (by omega)
        have r2 := hv.rng hR.cov (j := k - j) (by omega)
        have r3 := hv.lt hR.cov (i := k - j) (j := k - i) (by omega) (by omega)
        omega
    have hkf := fun i j => @kiteR_false l first last i j
    have hkt := kiteR_true hcl
    simp only [normRows_drs, Qs, Nat.reduceBEq, vv f36r31.eq_1, uu f36b32.eq_1, uu f36b35.eq_1]
    refine call_r g35 ?_ (ha := by simp [lendL, V.norm, lst, normRows_drs])
    generalize chainR l first last = c at hfacts hkf hkt
    obtain ⟨hc1, hc2⟩ := hfacts
    simp only [Qs, uu f36b27.eq_1, vv f36r28.eq_1, uu f36b29.eq_1, uu f36b30.eq_1]
    rw [uu f36l26.eq_1]
    refine awl_loop (fun i : Nat => [(0, lst 6 (drs l)), (7, lst 1 (ints c)), (8, .int .i64 i)]) (fun _ => []) (fun i => i ≤ c.length ∧ ∀ i' j, i' < i → i' < j → j < c.length → j - i' + 1 < c.length → closesR l (c.getD i' 0) (c.getD j 0) = false) (fun i => c.length - i) 0 rfl rfl ⟨Nat.zero_le _, fun _ _ h => by omega⟩ ?_
    rintro i ⟨hi, hd⟩
    by_cases hlt : i < c.length
    · have c1 : (i : Int) < c.length := by omega
      have c4 : IntKind.i64.wrap ((i : Int) + 1) = ((i + 1 : Nat) : Int) := by rw [wrap_in (by omega) (by omega)]; omega
      simp only [c1, c4, ints_len, Qs, if_true, Nat.reduceBEq, vv f36r3.eq_1, uu f36b17.eq_1, vv f36r18.eq_1, uu f36b19.eq_1, uu f36b20.eq_1, uu f36b21.eq_1, uu f36b22.eq_1, vv f36r23.eq_1, uu f36b24.eq_1, uu f36b25.eq_1]
      rw [uu f36l16.eq_1]
      refine awl_loop (fun j : Nat => [(0, lst 6 (drs l)), (7, lst 1 (ints c)), (8, .int .i64 i), (9, .int .i64 j)]) (fun _ => []) (fun j => i < j ∧ j ≤ c.length ∧ ∀ j', i < j' → j' < j → j' - i + 1 < c.length → closesR l (c.getD i 0) (c.getD j' 0) = false) (fun j => c.length - j) (i + 1) rfl rfl ⟨by omega, by omega, fun _ _ _ => by omega⟩ ?_
      rintro j ⟨hij, hj, hdj⟩
      by_cases hjt : j < c.length
      · have e1 : (j : Int) < c.length := by omega
        have e4 : IntKind.i64.wrap ((j : Int) + 1) = ((j + 1 : Nat) : Int) := by rw [wrap_in (by omega) (by omega)]; omega
        have e5 : IntKind.i64.wrap ((j : Int) - i) = (j : Int) - i := wrap_in (by omega) (by omega)
        have e6 : IntKind.i64.wrap ((j : Int) - i + 1) = (j : Int) - i + 1 := wrap_in (by omega) (by omega)
        have i0 : (0 : Int) ≤ (i : Int) := by omega
        have j0 : (0 : Int) ≤ (j : Int) := by omega
        have hgi : (ints c).getD i [] = [.int .i64 (c.getD i 0)] := ints_getD hlt
        have hgj : (ints c).getD j [] = [.int .i64 (c.getD j 0)] := ints_getD hjt
        obtain ⟨y0, y1, y2⟩ := hc2 i j hij hjt
        by_cases hs : (j : Int) - i + 1 < c.length
        · have g47 := d47 l hR (c.getD i 0) (c.getD j 0) y0 y1 y2
          simp only [e1, e5, e6, hs, c1, i0, j0, hgi, hgj, normRows_drs, ints_len, Int.toNat_natCast, Qs, if_true, Nat.reduceBEq, vv f36r4.eq_1, vv f36r8.eq_1, uu f36b9.eq_1, uu f36b10.eq_1, uu f36b11.eq_1, uu f36b12.eq_1, vv f36r13.eq_1, uu f36b14.eq_1, uu f36b15.eq_1]
          refine callQ_s g47 ?_ (ha := by simp [lendL, V.norm, lst, normRows_drs])
          cases hcc : closesR l (c.getD i 0) (c.getD j 0) with
          | true =>
            have := hkf i j hij hjt (by omega) hcc
            rw [this] at hS
            simp only [Qs, if_true, List.nodup_nil, Nat.reduceBEq, vv f36r5.eq_1, uu f36b6.eq_1, uu f36b7.eq_1]
            exact hS
          | false =>
            simp only [e4, Qs, if_true, Nat.reduceBEq, uu f36b7.eq_1]
            refine Next.intro (j + 1) rfl rfl ⟨by omega, by omega, fun j' h1' h2' h3' => ?_⟩ (by omega)
            by_cases ej : j' = j
            · rw [ej]; exact hcc
            · exact hdj j' h1' (by omega) h3'
        · simp only [e1, e4, e5, e6, hs, c1, i0, j0, hgi, hgj, normRows_drs, ints_len, Int.toNat_natCast, Qs, if_true, Nat.reduceBEq, vv f36r4.eq_1, uu f36b7.eq_1, vv f36r8.eq_1, uu f36b9.eq_1, uu f36b10.eq_1, uu f36b11.eq_1, uu f36b12.eq_1, vv f36r13.eq_1, uu f36b14.eq_1, uu f36b15.eq_1]
          refine Next.intro (j + 1) rfl rfl ⟨by omega, by omega, fun j' h1' h2' h3' => ?_⟩ (by omega)
          by_cases ej : j' = j
          · omega
          · exact hdj j' h1' (by omega) h3'
      · have e1 : ¬ (j : Int) < c.length := by omega
        simp only [e1, c4, ints_len, Qs, if_true, if_false, reduceCtorEq, Nat.reduceBEq, uu f36b12.eq_1, vv f36r13.eq_1, uu f36b14.eq_1, uu f36b15.eq_1]
        refine Next.intro (i + 1) rfl rfl ⟨by omega, fun i' j' h1' h2' h3' h4' => ?_⟩ (by omega)
        by_cases ei : i' = i
        · rw [ei]; rw [ei] at h2' h4'; exact hdj j' h2' (by omega) h4'
        · exact hd i' j' (by omega) h2' h3' h4'
    · have c1 : ¬ (i : Int) < c.length := by omega
      have := hkt fun i' j h1' h2' h3' => hd i' j (by omega) h1' h2' h3'
      rw [this] at hS
      simp only [c1, ints_len, Qs, if_true, List.nodup_nil, Nat.reduceBEq, vv f36r1.eq_1, uu f36b2.eq_1, uu f36b22.eq_1, vv f36r23.eq_1, uu f36b24.eq_1, uu f36b25.eq_1]
      exact hS
theorem kis_snoc (l : List Ki) (x : Ki) : kis l ++ [encKi x] = kis (l ++ [x]) := by simp [kis]
def putS (k : Ki) (s : List Ki × Bool) (x : Ki) : List Ki × Bool := if s.2 = false ∧ bef k.dr x.dr = true then (s.1 ++ [k] ++ [x], true) else (s.1 ++ [x], s.2)
theorem putS_no {k x : Ki} {s : List Ki × Bool} (h : ¬ (s.2 = false ∧ bef k.dr x.dr = true)) : putS k s x = (s.1 ++ [x], s.2) := if_neg h
theorem putS_yes {k x : Ki} {s : List Ki × Bool} (h : s.2 = false ∧ bef k.dr x.dr = true) : putS k s x = (s.1 ++ [k] ++ [x], true) := if_pos h
def putR (k : Ki) (s : List Ki × Bool) : List Ki := if s.2 = true then s.1 else s.1 ++ [k]
def putA (k : Ki) (l : List Ki) : List Ki × Bool := l.foldl (putS k) ([], false)
theorem putA_snoc (k : Ki) (l : List Ki) (x : Ki) : putA k (l ++ [x]) = putS k (putA k l) x := by
  unfold putA; rw [List.foldl_append]; rfl
theorem putA_gen (k : Ki) : ∀ (l : List Ki) (a : List Ki) (b : Bool), putR k (l.foldl (putS k) (a, b)) = a ++ if b = true then l else insKi l k
  | [], a, b => by cases b <;> simp [insKi, putR]
  | x :: l, a, b => by
    rw [List.foldl_cons]
    cases b with
    | true =>
      have e : putS k (a, true) x = (a ++ [x], true) := rfl
      rw [e, putA_gen k l (a ++ [x]) true, if_pos rfl, if_pos rfl, List.append_assoc]; rfl
    | false =>
      by_cases h : bef k.dr x.dr = true
      · have e : putS k (a, false) x = (a ++ [k] ++ [x], true) := putS_yes ⟨rfl, h⟩
        rw [e, putA_gen k l (a ++ [k] ++ [x]) true, if_pos rfl, if_neg (by simp), insKi, if_pos h]; simp
      · have e : putS k (a, false) x = (a ++ [x], false) := putS_no (fun g => h g.2)
        rw [e, putA_gen k l (a ++ [x]) false, if_neg (by simp), if_neg (by simp), insKi, if_neg h]; simp
theorem putA_end (k : Ki) (l : List Ki) : putR k (putA k l) = insKi l k := by
  have := putA_gen k l [] false
  simpa [putA] using this
theorem putA_len (k : Ki) (l : List Ki) : (putA k l).1.length ≤ 2 * l.length := by
  have gen : ∀ (l : List Ki) (s : List Ki × Bool), (l.foldl (putS k) s).1.length ≤ s.1.length + 2 * l.length := by
    intro l
    induction l with
    | nil => intro s; simp
    | cons x l ih =>
      intro s
      rw [List.foldl_cons]
      refine Nat.le_trans (ih _) ?_
      unfold putS
      split <;> simp <;> omega
  have := gen l ([], false)
  simpa [putA] using this
theorem d37 (l : List Ki) (k : Ki) (hl : l.length ≤ 10000) : Spec Try.prog 37 [lst 3 (kis l), .agg (encKi k)] (fun r => r = .k (.newl 25 3 (some false) (kis (insKi l k)))) := by
  refine Spec.of_awlX hf37 okf37 (by simp) fun S hS => ?_
  have hke : encKi k = [lstC 1 (ints k.dr), lstC 1 (ints k.fi), .int .i64 k.mo] := rfl
  rw [hke]
  simp only [normRows_kis, Qs, implies_true, bne_iff_ne, ne_eq, Nat.reduceAdd, Nat.reduceEqDiff, Nat.reduceBEq, List.not_mem_nil, implies_true, uu f37.eq_1, uu f37b24.eq_1, vv f37r25.eq_1, uu f37b26.eq_1, uu f37b27.eq_1, vv f37r28.eq_1, uu f37b29.eq_1, vv f37r30.eq_1, uu f37b31.eq_1, vv f37r32.eq_1, uu f37b33.eq_1]
  rw [uu f37l23.eq_1]
  refine awl_loop (fun i : Nat => [(0, lst 3 (kis l)), (3, .k (.ptr 3 0)), (5, .k (.own 8)), (6, .bool (putA k (l.take i)).2), (7, .int .i64 i)]) (fun i => [(3, .var 25 [.c (lstC 1 (ints k.dr)), .c (lstC 1 (ints k.fi)), .c (.int .i64 k.mo)]), (8, .arr 25 3 (some false) (kis (putA k (l.take i)).1))]) (fun i => i ≤ l.length) (fun i => l.length - i) 0 rfl rfl (Nat.zero_le _) ?_
  intro i hi
  by_cases hlt : i < l.length
  · have c1 : (i : Int) < l.length := by omega
    have i0 : (0 : Int) ≤ (i : Int) := by omega
    have c4 : IntKind.i64.wrap ((i : Int) + 1) = (i : Int) + 1 := wrap_in (by omega) (by omega)
    have hat : (kis l).getD i [] = [lstC 1 (ints l[i].dr), lstC 1 (ints l[i].fi), .int .i64 l[i].mo] := kis_at hlt
    have hsn := putA_snoc k (l.take i) l[i]
    rw [← List.take_succ_eq_append_getElem hlt] at hsn
    have hpl := putA_len k (l.take i)
    rw [List.length_take] at hpl
    generalize putA k (l.take i) = s at hsn hpl ⊢
    have hak : (s.1 ++ [k]).length = s.1.length + 1 := by rw [List.length_append, List.length_singleton]
    obtain ⟨sl, hsl⟩ : ∃ sl, s.1.length = sl := ⟨_, rfl⟩
    rw [hsl] at hpl
    have hks : kis s.1 ++ [[lstC 1 (ints k.dr), lstC 1 (ints k.fi), .int .i64 k.mo]] = kis (s.1 ++ [k]) := kis_snoc s.1 k
    have hks2 : ∀ r : List Ki, kis r ++ [[lstC 1 (ints l[i].dr), lstC 1 (ints l[i].fi), .int .i64 l[i].mo]] = kis (r ++ [l[i]]) := fun r => kis_snoc r l[i]
    have q1 : s.1.length + 1 ≤ 9223372036854775807 := by rw [hsl]; omega
    have q2 : (s.1.length + 1) * 56 ≤ 140737488355328 := by rw [hsl]; omega
    have q3 : (s.1 ++ [k]).length + 1 ≤ 9223372036854775807 := by rw [hak, hsl]; omega
    have q5 : (s.1 ++ [k]).length + 1 ≤ 30000 := by rw [hak, hsl]; omega
    have q4 : ((s.1 ++ [k]).length + 1) * 56 ≤ 140737488355328 := Nat.le_trans (Nat.mul_le_mul_right 56 q5) (by decide)
    cases hb : s.2 with
    | true =>
      have hp : putS k s l[i] = (s.1 ++ [l[i]], true) := by
        have := putS_no (k := k) (x := l[i]) (s := s) (fun h => by rw [hb] at h; exact absurd h.1 (by decide))
        rw [hb] at this; exact this
      rw [hp] at hsn
      simp only [c1, c4, i0, hat, hks2, q1, q2, kis_len, normRows_kis, Int.toNat_natCast, Qs, if_true, if_false, forall_eq, bne_iff_ne, ne_eq, List.mem_cons, Nat.reduceAdd, Nat.reduceEqDiff, Nat.reduceLT, Nat.reduceBEq, List.not_mem_nil, vv f37r8.eq_1, vv f37r9.eq_1, uu f37b13.eq_1, vv f37r14.eq_1, uu f37b15.eq_1, uu f37b16.eq_1, uu f37b17.eq_1, uu f37b18.eq_1, uu f37b19.eq_1, vv f37r20.eq_1, uu f37b21.eq_1, uu f37b22.eq_1]
      exact Next.intro (i + 1) (by simp only [hsn]; rfl) (by simp only [hsn]; rfl) (by omega) (by omega)
    | false =>
      simp only [c1, c4, i0, hat, hks2, q1, q2, kis_len, normRows_kis, normRows_ints, Int.toNat_natCast, Qs, if_true, if_false, Nat.reduceAdd, Nat.reduceLeDiff, Nat.reduceBEq, vv f37r8.eq_1, vv f37r9.eq_1, vv f37r14.eq_1, uu f37b15.eq_1, uu f37b16.eq_1, uu f37b17.eq_1, uu f37b18.eq_1, uu f37b19.eq_1, vv f37r20.eq_1, uu f37b21.eq_1, uu f37b22.eq_1]
      refine callQ_s (d48 k.dr l[i].dr) ?_ (ha := by simp [lendL, V.norm, lst])
      cases hbf : bef k.dr l[i].dr with
      | true =>
        have hp : putS k s l[i] = (s.1 ++ [k] ++ [l[i]], true) := putS_yes ⟨hb, hbf⟩
        rw [hp] at hsn
        simp only [c4, i0, c1, hat, hks, hks2, q1, q2, q3, q4, kis_len, normRows_kis, Int.toNat_natCast, Qs, q_K_noRef_eq_8, if_true, if_false, forall_eq, bne_iff_ne, ne_eq, List.mem_cons, Nat.reduceAdd, Nat.reduceEqDiff, Nat.reduceLT, Nat.reduceBEq, List.not_mem_nil, vv f37r10.eq_1, vv f37r11.eq_1, uu f37b12.eq_1, uu f37b13.eq_1]
        exact Next.intro (i + 1) (by simp only [hsn]; rfl) (by simp only [hsn]; rfl) (by omega) (by omega)
      | false =>
        have hp : putS k s l[i] = (s.1 ++ [l[i]], false) := by
          have := putS_no (k := k) (x := l[i]) (s := s) (fun h => by rw [hbf] at h; exact absurd h.2 (by decide))
          rw [hb] at this; exact this
        rw [hp] at hsn
        simp only [c4, i0, c1, hat, hks2, q1, q2, kis_len, normRows_kis, Int.toNat_natCast, Qs, if_true, if_false, forall_eq, bne_iff_ne, ne_eq, List.mem_cons, Nat.reduceAdd, Nat.reduceEqDiff, Nat.reduceLT, Nat.reduceBEq, List.not_mem_nil, uu f37b13.eq_1]
        exact Next.intro (i + 1) (by simp only [hsn]; rfl) (by simp only [hsn]; rfl) (by omega) (by omega)
  · obtain rfl : i = l.length := by omega
    have c1 : ¬ (l.length : Int) < l.length := by omega
    rw [List.take_length]
    have he := putA_end k l
    have hpl := putA_len k l
    generalize putA k l = s at he hpl ⊢
    obtain ⟨sl, hsl⟩ : ∃ sl, s.1.length = sl := ⟨_, rfl⟩
    rw [hsl] at hpl
    cases hb : s.2 with
    | true =>
      unfold putR at he
      rw [hb, if_pos rfl] at he
      rw [← he] at hS
      simp only [c1, kis_len, endKX_ret, endKX_normal, Qs, if_true, List.nodup_nil, List.nodup_cons, Nat.reduceBEq, List.not_mem_nil, vv f37r1.eq_1, uu f37b2.eq_1, vv f37r3.eq_1, uu f37b4.eq_1, vv f37r5.eq_1, uu f37b6.eq_1, uu f37b7.eq_1, uu f37b19.eq_1, vv f37r20.eq_1, uu f37b21.eq_1, uu f37b22.eq_1]
      exact hS
    | false =>
      unfold putR at he
      rw [hb, if_neg (by simp)] at he
      rw [← he] at hS
      have q1 : s.1.length + 1 ≤ 9223372036854775807 := by rw [hsl]; omega
      have q2 : (s.1.length + 1) * 56 ≤ 140737488355328 := by rw [hsl]; omega
      have hks : kis s.1 ++ [[lstC 1 (ints k.dr), lstC 1 (ints k.fi), .int .i64 k.mo]] = kis (s.1 ++ [k]) := kis_snoc s.1 k
      simp only [c1, q1, q2, hks, kis_len, endKX_ret, endKX_normal, Qs, if_true, if_false, forall_eq, bne_iff_ne, ne_eq, List.mem_cons, List.nodup_nil, List.nodup_cons, Nat.reduceAdd, Nat.reduceEqDiff, Nat.reduceLT, Nat.reduceBEq, List.not_mem_nil, vv f37r1.eq_1, uu f37b2.eq_1, vv f37r3.eq_1, uu f37b4.eq_1, vv f37r5.eq_1, uu f37b6.eq_1, uu f37b7.eq_1, uu f37b19.eq_1, vv f37r20.eq_1, uu f37b21.eq_1, uu f37b22.eq_1]
      exact hS
end Go.Abs


set_option maxRecDepth 100000
set_option maxHeartbeats 4000000
namespace Go.Abs
open Go.Proofs Go.RowKit
theorem insKi_len (k : Ki) : ∀ l : List Ki, (insKi l k).length = l.length + 1
  | [] => rfl
  | x :: l => by
    rw [insKi]
    split
    · simp
    · simp [insKi_len k l]
theorem foundR_len (l : List Dr) (n : Nat) (f : Int) : ∀ (xs : List Int) (acc : List Ki), (xs.foldl (foundR l n f) acc).length ≤ acc.length + xs.length
  | [], acc => by simp
  | x :: xs, acc => by
    rw [List.foldl_cons]
    refine Nat.le_trans (foundR_len l n f xs _) ?_
    unfold foundR
    rw [List.length_cons]
    split
    · rw [insKi_len]; omega
    · omega
theorem rangeI_len (lo : Int) (m : Nat) : (rangeI lo m).length = m := by simp [rangeI]
def obR (c : List Int) (l : List Dr) (out : List Ki) : Nat → OS
  | 0 => [(9, .var 25 [.c (lstC 1 (ints c)), .c (.list 0 (some true) []), .c (.int .i64 (moT l c 0))]), (11, .arr 25 3 (some false) (kis out))]
  | i + 1 => [(9, .var 25 [.c (lstC 1 (ints c)), .own 70, .c (.int .i64 (moT l c (i + 1)))]), (11, .arr 25 3 (some false) (kis out)), (70, .arr 3 1 (some false) (ints (fiT l c (i + 1))))]
theorem d16 (l : List Dr) : Spec Try.prog 16 [lst 6 (drs l)] (fun r => r = lst 3 (kis (kitesG l))) := by
  refine Spec.of_awlP hf16 okf16 (by simp) fun S hS => ?_
  unfold kitesG at hS
  simp only [normRows_drs, Qs, implies_true, bne_iff_ne, ne_eq, Nat.reduceAdd, Nat.reduceEqDiff, Nat.reduceBEq, List.not_mem_nil, implies_true, uu f16.eq_1, vv f16r71.eq_1, uu f16b72.eq_1, uu f16b73.eq_1, vv f16r74.eq_1, uu f16b75.eq_1, vv f16r76.eq_1, uu f16b77.eq_1]
  refine call_s (d11 l) ?_ (ha := by simp [lendL, lendO, lookO, V.norm, norm_list, lst, normRows_drs])
  by_cases h : chkG l = 0
  case neg =>
    have hb : (chkG l != 0) = true := by simpa using h
    rw [if_neg h] at hS
    simp only [hb, Qs, if_true, List.nodup_nil, List.nodup_cons, Nat.reduceBEq, List.not_mem_nil, vv f16r68.eq_1, uu f16b69.eq_1, uu f16b70.eq_1]
    exact hS _ rfl
  have hb : (chkG l != 0) = false := by simpa using h
  rw [if_pos h] at hS
  have hR := right_of h
  have hl := hR.len
  simp only [hb, drs_len, normRows_drs, Qs, if_true, uu f16b64.eq_1, vv f16r65.eq_1, uu f16b66.eq_1, uu f16b67.eq_1, uu f16b70.eq_1]
  rw [uu f16l63.eq_1]
  refine awl_loop (fun q : Nat => [(0, lst 6 (drs l)), (3, .k (.own 11)), (4, .int .i64 ((q : Int) + 2))]) (fun q => [(11, .arr 25 3 (some false) (kis ((rangeI 2 q).flatMap fun n => sizeR l n.toNat)))]) (fun q => q ≤ l.length - 1 ∧ ((rangeI 2 q).flatMap fun n => sizeR l n.toNat).length ≤ q * 10000) (fun q => l.length - 1 - q) 0 rfl rfl ⟨Nat.zero_le _, by simp [rangeI]⟩ ?_
  rintro q ⟨hq, hqo⟩
  by_cases hqt : q < l.length - 1
  · have c1 : (q : Int) + 2 ≤ l.length := by omega
    have c4 : IntKind.i64.wrap ((q : Int) + 2 + 1) = ((q + 1 : Nat) : Int) + 2 := by rw [wrap_in (by omega) (by omega)]; omega
    obtain ⟨out0, hout0⟩ : ∃ o, ((rangeI 2 q).flatMap fun n => sizeR l n.toNat) = o := ⟨_, rfl⟩
    have hsn : ((rangeI 2 (q + 1)).flatMap fun n => sizeR l n.toNat) = out0 ++ sizeR l (q + 2) := by
      rw [rangeI_snoc, List.flatMap_append, hout0]
      simp [show (2 + (q : Int)).toNat = q + 2 by omega]
    rw [hout0] at hqo ⊢
    simp only [c1, drs_len, normRows_drs, Qs, if_true, Nat.reduceBEq, vv f16r3.eq_1, uu f16b54.eq_1, vv f16r55.eq_1, uu f16b56.eq_1, uu f16b57.eq_1, uu f16b58.eq_1, uu f16b59.eq_1, vv f16r60.eq_1, uu f16b61.eq_1, uu f16b62.eq_1]
    rw [uu f16l53.eq_1]
    refine awl_loop (fun f : Nat => [(0, lst 6 (drs l)), (3, .k (.own 11)), (4, .int .i64 ((q : Int) + 2)), (5, .int .i64 f)]) (fun f => [(11, .arr 25 3 (some false) (kis (out0 ++ (rangeI 0 f).flatMap (firstR l (q + 2)))))]) (fun f => f ≤ l.length ∧ (out0 ++ (rangeI 0 f).flatMap (firstR l (q + 2))).length ≤ q * 10000 + f * 100) (fun f => l.length - f) 0 rfl (by simp only [rangeI, List.range_zero, List.map_nil, List.flatMap_nil, List.append_nil]; rfl) ⟨Nat.zero_le _, by simpa [rangeI] using hqo⟩ ?_
    rintro f ⟨hf, hfo⟩
    by_cases hft : f < l.length
    · have d1 : (f : Int) < l.length := by omega
      have d4 : IntKind.i64.wrap ((f : Int) + 1) = (f : Int) + 1 := wrap_in (by omega) (by omega)
      obtain ⟨out1, hout1⟩ : ∃ o, out0 ++ (rangeI 0 f).flatMap (firstR l (q + 2)) = o := ⟨_, rfl⟩
      have hsn1 : out0 ++ (rangeI 0 (f + 1)).flatMap (firstR l (q + 2)) = out1 ++ firstR l (q + 2) f := by
        rw [rangeI_snoc, List.flatMap_append, ← List.append_assoc, hout1]
        simp
      rw [hout1] at hfo ⊢
      have hgoal : firstR l (q + 2) f = (rangeI ((f : Int) + 1) (l.length - (f + 1))).foldl (foundR l (q + 2) f) [] := by unfold firstR; congr 2; omega
      simp only [d1, d4, drs_len, normRows_drs, Qs, if_true, if_false, implies_true, bne_iff_ne, ne_eq, Nat.reduceAdd, Nat.reduceEqDiff, Nat.reduceBEq, List.not_mem_nil, implies_true, vv f16r4.eq_1, vv f16r5.eq_1, uu f16b41.eq_1, vv f16r42.eq_1, uu f16b43.eq_1, uu f16b44.eq_1, vv f16r45.eq_1, uu f16b46.eq_1, uu f16b47.eq_1, uu f16b48.eq_1, uu f16b49.eq_1, vv f16r50.eq_1, uu f16b51.eq_1, uu f16b52.eq_1]
      rw [uu f16l40.eq_1]
      refine awl_loop (fun z : Nat × Bool => [(0, lst 6 (drs l)), (3, .k (.own 11)), (4, .int .i64 ((q : Int) + 2)), (5, .int .i64 f), (6, if z.2 = true then .k (.own 89) else .list 3 (some false) (kis ((rangeI ((f : Int) + 1) z.1).foldl (foundR l (q + 2) f) []))), (7, .int .i64 ((f : Int) + 1 + z.1))]) (fun z => if z.2 = true then [(11, .arr 25 3 (some false) (kis out1)), (89, .arr 25 3 (some false) (kis ((rangeI ((f : Int) + 1) z.1).foldl (foundR l (q + 2) f) [])))] else [(11, .arr 25 3 (some false) (kis out1))]) (fun z => z.1 ≤ l.length - (f + 1)) (fun z => l.length - (f + 1) - z.1) (0, false) (by show _ = [(0, lst 6 (drs l)), (3, V.k (.own 11)), (4, .int .i64 ((q : Int) + 2)), (5, .int .i64 f), (6, .list 3 (some false) (kis [])), (7, .int .i64 ((f : Int) + 1 + ((0 : Nat) : Int)))]; rw [show ((f : Int) + 1 + ((0 : Nat) : Int)) = (f : Int) + 1 by omega]; rfl) rfl (Nat.zero_le _) ?_
      rintro ⟨j, fl⟩ hj
      simp only [] at hj
      have hfl := foundR_len l (q + 2) f (rangeI ((f : Int) + 1) j) []
      rw [rangeI_len, List.length_nil, Nat.zero_add] at hfl
      have hsn2 : (rangeI ((f : Int) + 1) (j + 1)).foldl (foundR l (q + 2) f) [] = foundR l (q + 2) f ((rangeI ((f : Int) + 1) j).foldl (foundR l (q + 2) f) []) ((f : Int) + 1 + j) := by rw [rangeI_snoc, List.foldl_append]; rfl
      generalize hfd : (rangeI ((f : Int) + 1) j).foldl (foundR l (q + 2) f) [] = found at hfl hsn2
      cases fl
      all_goals
        simp only [if_true, if_false, Bool.false_eq_true]
        by_cases hjt : j < l.length - (f + 1)
        · have e1 : (f : Int) + 1 + j < l.length := by omega
          have e4 : IntKind.i64.wrap ((f : Int) + 1 + j + 1) = (f : Int) + 1 + ((j + 1 : Nat) : Int) := by rw [wrap_in (by omega) (by omega)]; omega
          have hM : l.length - (f + 1) - (j + 1) < l.length - (f + 1) - j := by omega
          obtain ⟨x, hx⟩ : ∃ x, (f : Int) + 1 + j = x := ⟨_, rfl⟩
          rw [hx] at e1 hsn2 ⊢
          rw [hx] at e4
          have x1 : (f : Int) ≤ x := by omega
          have f0 : (0 : Int) ≤ (f : Int) := by omega
          have g35 := d35 l hR f x f0 x1 e1
          have g36 := d36 l hR f x f0 x1 e1
          have hmem : ∀ y ∈ chainR l f x, 0 ≤ y ∧ y < l.length := by
            rcases chainR_spec hR.cov f0 x1 e1 with ⟨e, _⟩ | ⟨k, e, hv, _⟩
            · rw [e]; intro y hy; cases hy
            · rw [e]; intro y hy
              obtain ⟨i, hi, rfl⟩ := chn_mem.1 hy
              exact hv.rng hR.cov hi
          have hcl : (chainR l f x).length ≤ 100 := by
            rcases chainR_spec hR.cov f0 x1 e1 with ⟨e, _⟩ | ⟨k, e, hv, _⟩
            · rw [e]; simp
            · rw [e, chn_len]
              have hk := hv.dec hR.cov k (Nat.le_refl k)
              have hk2 := hv.2 k (Nat.le_refl k)
              omega
          change _ = if (chainR l f x).length = q + 2 ∧ kiteR l f x = true then insKi found (kiOf l (chainR l f x)) else found at hsn2
          simp only [e1, drs_len, normRows_drs, Qs, if_true, if_false, Nat.reduceEqDiff, Nat.reduceBEq, vv f16r6.eq_1, vv f16r31.eq_1, uu f16b32.eq_1, uu f16b33.eq_1, uu f16b34.eq_1, uu f16b35.eq_1, vv f16r36.eq_1, uu f16b37.eq_1, uu f16b38.eq_1, uu f16b39.eq_1]
          refine call_r g35 ?_ (ha := by simp [lendL, V.norm, lst, normRows_drs])
          have hki : kiOf l (chainR l f x) = ⟨chainR l f x, fiT l (chainR l f x) (chainR l f x).length, moT l (chainR l f x) (chainR l f x).length⟩ := by
            unfold kiOf fiT moT
            rw [List.take_length, List.take_of_length_le (by rw [List.length_dropLast]; omega)]
          rw [hki] at hsn2
          generalize chainR l f x = c at hsn2 hmem hcl
          clear hki g35
          by_cases hlen : c.length = q + 2
          case neg =>
            have hlb : ((c.length : Int) == (q : Int) + 2) = false := by simp; omega
            rw [if_neg (fun g => hlen g.1)] at hsn2
            simp only [hlb, e4, ints_len, Qs, if_true, Nat.reduceBEq, uu f16b28.eq_1, vv f16r29.eq_1, uu f16b30.eq_1]
            exact Next.intro (j + 1, false) (by simp only [hsn2]; rfl) rfl (show j + 1 ≤ l.length - (f + 1) by omega) hM
          have hlb : ((c.length : Int) == (q : Int) + 2) = true := by simp; omega
          simp only [hlb, ints_len, normRows_drs, Qs, if_true, Nat.reduceBEq, vv f16r29.eq_1, uu f16b30.eq_1]
          refine call_s g36 ?_ (ha := by simp [lendL, V.norm, lst, normRows_drs])
          cases hkr : kiteR l f x with
          | false =>
            rw [if_neg (fun g => by rw [hkr] at g; exact absurd g.2 (by decide))] at hsn2
            simp only [e4, Qs, if_true, Nat.reduceBEq, uu f16b28.eq_1]
            exact Next.intro (j + 1, false) (by simp only [hsn2]; rfl) rfl (show j + 1 ≤ l.length - (f + 1) by omega) hM
          | true =>
            rw [if_pos ⟨hlen, hkr⟩] at hsn2
            simp only [Qs, if_true, bne_iff_ne, ne_eq, List.append_nil, Nat.reduceAdd, Nat.reduceEqDiff, Nat.reduceLeDiff, Nat.reduceBEq, vv f16r7.eq_1, uu f16b22.eq_1, vv f16r23.eq_1, uu f16b24.eq_1, uu f16b25.eq_1, vv f16r26.eq_1, uu f16b27.eq_1, uu f16b28.eq_1]
            rw [uu f16l21.eq_1]
            have hmo : ∀ i, 0 ≤ moT l c i ∧ moT l c i ≤ 109951162777600 := by
              intro i
              have h1 := sumI_bound (B := 1099511627776) (l := (c.dropLast.take i).map (ownAt l)) fun z hz => by
                obtain ⟨y, hy, rfl⟩ := List.mem_map.1 hz
                obtain ⟨y0, y1⟩ := hmem y (List.dropLast_subset _ (List.mem_of_mem_take hy))
                have h2 := own_facts hR.sum y0 y1
                have h3 := hR.sum _ (dat_mem y0 y1)
                omega
              have h4 : ((c.dropLast.take i).map (ownAt l)).length ≤ 100 := by rw [List.length_map, List.length_take, List.length_dropLast]; omega
              have h5 : (((c.dropLast.take i).map (ownAt l)).length : Int) * 1099511627776 ≤ 100 * 1099511627776 := Int.mul_le_mul_of_nonneg_right (by omega) (by omega)
              have h6 : moT l c i = sumI ((c.dropLast.take i).map (ownAt l)) := rfl
              omega
            refine awl_loop (fun i : Nat => [(0, lst 6 (drs l)), (3, .k (.own 11)), (4, .int .i64 ((q : Int) + 2)), (5, .int .i64 f), (6, .list 3 (some false) (kis found)), (7, .int .i64 x), (8, lst 1 (ints c)), (9, .k (.ptr 9 0)), (10, .int .i64 i)])
              (obR c l out1) (fun i => i ≤ q + 2) (fun i => q + 2 - i) 0 rfl rfl (Nat.zero_le _) ?_
            intro i hi
            by_cases hit : i < q + 2
            · have c5 : (i : Int) < (q : Int) + 2 := by omega
              have c6 : IntKind.i64.wrap ((i : Int) + 1) = (i : Int) + 1 := wrap_in (by omega) (by omega)
              have hlen' : (c.length : Int) = (q : Int) + 2 := by omega
              have hic : i < c.length := by omega
              have i0 : (0 : Int) ≤ (i : Int) := by omega
              obtain ⟨y, hy⟩ : ∃ y, c[i] = y := ⟨_, rfl⟩
              have hcy : (ints c).getD i [] = [.int .i64 y] := by rw [ints_at hic, hy]
              obtain ⟨y0, y1⟩ := hmem y (by rw [← hy]; exact List.getElem_mem hic)
              have hay := drs_dat y0 y1
              have g13 := d13 l y
              rw [ownG_right h y0 y1] at g13
              have hfi := fiT_next (l := l) hic
              rw [hy] at hfi
              have hfl2 : (fiT l c i).length ≤ 100 := by unfold fiT; rw [List.length_map, List.length_take]; omega
              have q1 : (fiT l c i).length + 1 ≤ 9223372036854775807 := by omega
              have q2 : ((fiT l c i).length + 1) * 8 ≤ 140737488355328 := by omega
              have hm1 := hmo i
              have hm2 := hmo (i + 1)
              have hMeas : q + 2 - (i + 1) < q + 2 - i := by omega
              have key : (i = q + 1 ∧ moT l c (i + 1) = moT l c i) ∨ (i < q + 1 ∧ moT l c (i + 1) = moT l c i + ownAt l y) := by
                by_cases e : i = q + 1
                · exact .inl ⟨e, by unfold moT; rw [dl_last (by omega)]⟩
                · refine .inr ⟨by omega, ?_⟩
                  unfold moT; rw [dl_take (by omega), List.map_append, hy]; exact sumI_snoc _ _
              have hob : (i = 0 ∧ fiT l c i = [] ∧ obR c l out1 i = [(9, .var 25 [.c (lstC 1 (ints c)), .c (.list 0 (some true) []), .c (.int .i64 (moT l c i))]), (11, .arr 25 3 (some false) (kis out1))]) ∨
                  (0 < i ∧ obR c l out1 i = [(9, .var 25 [.c (lstC 1 (ints c)), .own 70, .c (.int .i64 (moT l c i))]), (11, .arr 25 3 (some false) (kis out1)), (70, .arr 3 1 (some false) (ints (fiT l c i)))]) := by
                cases i with
                | zero => exact .inl ⟨rfl, rfl, rfl⟩
                | succ i => exact .inr ⟨Nat.succ_pos i, rfl⟩
              rcases hob with ⟨hz, hfz, hob⟩ | ⟨hz, hob⟩
              · rw [hfz, List.nil_append] at hfi
                rcases key with ⟨e, hm⟩ | ⟨e, hm⟩
                · have k2 : ¬ ((i : Int) + 1 < (q : Int) + 2) := by omega
                  simp only [hob, c5, c6, i0, k2, hcy, y0, y1, hay, hlen', q1, q2, drs_len, ints_len, ints_snoc, normRows_drs, normRows_ints, Int.toNat_natCast, Qs, if_true, if_false, reduceCtorEq, forall_eq, bne_iff_ne, ne_eq, List.mem_cons, Nat.reduceAdd, Nat.reduceMul, Nat.reduceEqDiff, Nat.reduceLeDiff, Nat.reduceLT, Nat.reduceBEq, List.not_mem_nil, vv f16r8.eq_1, vv f16r9.eq_1, uu f16b10.eq_1, vv f16r11.eq_1, uu f16b12.eq_1, vv f16r13.eq_1, uu f16b14.eq_1, uu f16b15.eq_1, uu f16b16.eq_1, uu f16b17.eq_1, vv f16r18.eq_1, uu f16b19.eq_1, uu f16b20.eq_1]
                  exact Next.intro (i + 1) rfl (by simp only [obR, hfi, hm]; rfl) (by omega) hMeas
                · have k2 : (i : Int) + 1 < (q : Int) + 2 := by omega
                  have cw : IntKind.i64.wrap (moT l c i + ownAt l y) = moT l c (i + 1) := by rw [hm]; exact wrap_in (by omega) (by omega)
                  simp only [hob, c5, c6, i0, k2, hcy, y0, y1, hay, hlen', q1, q2, drs_len, ints_len, ints_snoc, normRows_drs, normRows_ints, Int.toNat_natCast, Qs, if_true, if_false, reduceCtorEq, forall_eq, bne_iff_ne, ne_eq, List.mem_cons, Nat.reduceAdd, Nat.reduceMul, Nat.reduceEqDiff, Nat.reduceLeDiff, Nat.reduceLT, Nat.reduceBEq, List.not_mem_nil, vv f16r8.eq_1, vv f16r9.eq_1, uu f16b10.eq_1, vv f16r11.eq_1, uu f16b12.eq_1, vv f16r13.eq_1, uu f16b14.eq_1, uu f16b15.eq_1, uu f16b16.eq_1, uu f16b17.eq_1, vv f16r18.eq_1, uu f16b19.eq_1, uu f16b20.eq_1]
                  refine callQ_s g13 ?_ (ha := by simp [lendL, V.norm, lst, normRows_drs])
                  simp only [c6, cw, Qs, if_true, List.append_nil, Nat.reduceAdd, Nat.reduceBEq]
                  exact Next.intro (i + 1) rfl (by simp only [obR, hfi]; rfl) (by omega) hMeas
              · rcases key with ⟨e, hm⟩ | ⟨e, hm⟩
                · have k2 : ¬ ((i : Int) + 1 < (q : Int) + 2) := by omega
                  simp only [hob, c5, c6, i0, k2, hcy, y0, y1, hay, hlen', q1, q2, drs_len, ints_len, ints_snoc, normRows_drs, normRows_ints, Int.toNat_natCast, Qs, if_true, if_false, reduceCtorEq, forall_eq, List.mem_cons, Nat.reduceAdd, Nat.reduceEqDiff, Nat.reduceLeDiff, Nat.reduceLT, Nat.reduceBEq, List.not_mem_nil, vv f16r8.eq_1, vv f16r9.eq_1, uu f16b10.eq_1, vv f16r11.eq_1, uu f16b12.eq_1, vv f16r13.eq_1, uu f16b14.eq_1, uu f16b15.eq_1, uu f16b16.eq_1, uu f16b17.eq_1, vv f16r18.eq_1, uu f16b19.eq_1, uu f16b20.eq_1]
                  exact Next.intro (i + 1) rfl (by simp only [obR, hfi, hm]; rfl) (by omega) hMeas
                · have k2 : (i : Int) + 1 < (q : Int) + 2 := by omega
                  have cw : IntKind.i64.wrap (moT l c i + ownAt l y) = moT l c (i + 1) := by rw [hm]; exact wrap_in (by omega) (by omega)
                  simp only [hob, c5, c6, i0, k2, hcy, y0, y1, hay, hlen', q1, q2, drs_len, ints_len, ints_snoc, normRows_drs, normRows_ints, Int.toNat_natCast, Qs, if_true, if_false, reduceCtorEq, forall_eq, List.mem_cons, Nat.reduceAdd, Nat.reduceEqDiff, Nat.reduceLeDiff, Nat.reduceLT, Nat.reduceBEq, List.not_mem_nil, vv f16r8.eq_1, vv f16r9.eq_1, uu f16b10.eq_1, vv f16r11.eq_1, uu f16b12.eq_1, vv f16r13.eq_1, uu f16b14.eq_1, uu f16b15.eq_1, uu f16b16.eq_1, uu f16b17.eq_1, vv f16r18.eq_1, uu f16b19.eq_1, uu f16b20.eq_1]
                  refine callQ_s g13 ?_ (ha := by simp [lendL, V.norm, lst, normRows_drs])
                  simp only [c6, cw, Qs, if_true, List.append_nil, Nat.reduceAdd, Nat.reduceBEq]
                  exact Next.intro (i + 1) rfl (by simp only [obR, hfi]; rfl) (by omega) hMeas
            · obtain rfl : i = q + 2 := by omega
              have c5 : ¬ (((q + 2 : Nat) : Int) < (c.length : Int)) := by omega
              have hK := d37 found ⟨c, fiT l c c.length, moT l c c.length⟩ (by omega)
              have hob2 : obR c l out1 (q + 2) = [(9, .var 25 [.c (lstC 1 (ints c)), .own 70, .c (.int .i64 (moT l c (q + 2)))]), (11, .arr 25 3 (some false) (kis out1)), (70, .arr 3 1 (some false) (ints (fiT l c (q + 2))))] := rfl
              rw [hlen] at hK hsn2
              simp only [c5, hob2, normRows_kis, ints_len, Qs, if_true, if_false, reduceCtorEq, Nat.reduceAdd, Nat.reduceEqDiff, Nat.reduceBEq, uu f16b17.eq_1, vv f16r18.eq_1, uu f16b19.eq_1, uu f16b20.eq_1]
              refine call_l hK ?_ (ha := by simp [lendL, V.norm, lst, normRows_kis, encKi])
              simp only [e4, Qs, if_true, Nat.reduceBEq]
              exact Next.intro (j + 1, true) rfl (by simp only [hsn2]; rfl) (show j + 1 ≤ l.length - (f + 1) by omega) hM
        · have e1 : ¬ (f : Int) + 1 + j < l.length := by omega
          have ej : j = l.length - (f + 1) := by omega
          rw [ej] at hfd
          rw [← hgoal] at hfd
          rw [hfd] at hsn1
          obtain ⟨ol, hol⟩ : ∃ n, out1.length = n := ⟨_, rfl⟩
          have q1 : out1.length + found.length ≤ 9223372036854775807 := by rw [hol] at hfo ⊢; omega
          have q5 : out1.length + found.length ≤ 2000000 := by rw [hol] at hfo ⊢; omega
          have q2 : (out1.length + found.length) * 56 ≤ 140737488355328 := Nat.le_trans (Nat.mul_le_mul_right 56 q5) (by decide)
          have hka : kis out1 ++ kis found = kis (out1 ++ found) := by simp [kis]
          have hnl : ∀ r : List Ki, nlApp (some false) (kis r) = some false := fun r => by cases r <;> rfl
          simp only [e1, d4, q1, q2, hka, hnl, kis_len, drs_len, Qs, if_true, if_false, reduceCtorEq, true_or, Nat.reduceEqDiff, Nat.reduceBEq, uu f16b35.eq_1, vv f16r36.eq_1, uu f16b37.eq_1, uu f16b38.eq_1, uu f16b39.eq_1]
          refine Next.intro (f + 1) rfl (by simp only [hsn1]; rfl) ⟨by omega, ?_⟩ (by omega)
          show (out0 ++ (rangeI 0 (f + 1)).flatMap (firstR l (q + 2))).length ≤ _
          rw [hsn1, List.length_append, hol]
          rw [hol] at hfo
          omega
    · have d1 : ¬ (f : Int) < l.length := by omega
      obtain rfl : f = l.length := by omega
      have hsz : out0 ++ (rangeI 0 l.length).flatMap (firstR l (q + 2)) = (rangeI 2 (q + 1)).flatMap fun n => sizeR l n.toNat := by rw [hsn]; rfl
      rw [hsz] at hfo
      simp only [d1, c4, hsz, drs_len, Qs, if_true, if_false, reduceCtorEq, Nat.reduceBEq, uu f16b49.eq_1, vv f16r50.eq_1, uu f16b51.eq_1, uu f16b52.eq_1]
      exact Next.intro (q + 1) rfl rfl ⟨by omega, by show ((rangeI 2 (q + 1)).flatMap fun n => sizeR l n.toNat).length ≤ (q + 1) * 10000; omega⟩ (by omega)
  · have c1 : ¬ (q : Int) + 2 ≤ l.length := by omega
    have eq : q = l.length - 1 := by omega
    have hk : ((rangeI 2 q).flatMap fun n => sizeR l n.toNat) = kitesR l := by rw [eq]; rfl
    rw [hk]
    simp only [c1, drs_len, Qs, if_true, List.nodup_nil, List.nodup_cons, Nat.reduceBEq, List.not_mem_nil, vv f16r1.eq_1, uu f16b2.eq_1, uu f16b59.eq_1, vv f16r60.eq_1, uu f16b61.eq_1, uu f16b62.eq_1]
    exact hS _ (by simp [V.fz, V.nrm, Abs.K.fz, Abs.K.nrm, norm_list, normRows_kis])
theorem e18 (l : List Dr) (k : Ki) : Spec Try.prog 18 [lst 6 (drs l), .agg (encKi k)] (fun r => r = .bool (provesG (kitesG l) k)) := by
  refine Spec.of_awlS hf18 okf18 (by simp) fun S hS => ?_
  have hke : encKi k = [lstC 1 (ints k.dr), lstC 1 (ints k.fi), .int .i64 k.mo] := rfl
  rw [hke]
  simp only [normRows_drs, normRows_ints, Qs, Nat.reduceAdd, Nat.reduceBEq, uu f18.eq_1, vv f18r20.eq_1, uu f18b21.eq_1, vv f18r22.eq_1, uu f18b23.eq_1]
  refine call_r (d16 l) ?_ (ha := by simp [lendL, V.norm, lst, normRows_drs])
  have hbd : (kitesG l).length ≤ 1000000 := by
    unfold kitesG
    split
    · rename_i h
      have hR := right_of h
      have hp := hR.len

      have hle : (rawG l).length ≤ l.length := by
        unfold rawG
        rw [List.length_map]
        exact Nat.le_trans (List.length_filter_le _ _) (by rw [rangeI_len]; exact Nat.le_refl _)
      have := kites_eq hR.cov (out := (rawG l).mergeSort fun x y => !ltK y x) (List.mergeSort_perm _ _) (by
        have := List.pairwise_mergeSort (le := fun x y : Ki => !ltK y x) (fun a b c h1 h2 => by
          simp only [Bool.not_eq_true'] at *
          exact ltK_swo h2 h1) (fun a b => by
          simp only [Bool.or_eq_true, Bool.not_eq_true']
          cases hab : ltK b a with
          | false => exact .inl rfl
          | true =>
            right
            cases hba : ltK a b with
            | false => rfl
            | true => have := ltK_trans hab hba; rw [ltK_irr] at this; cases this) (rawG l)
        exact this.imp fun h => by simpa using h)
      rw [← this, List.length_mergeSort]
      omega
    · simp
  generalize kitesG l = ks at hS hbd
  simp only [Qs, uu f18b16.eq_1, vv f18r17.eq_1, uu f18b18.eq_1, uu f18b19.eq_1]
  rw [uu f18l15.eq_1]
  refine awl_loop (fun i : Nat => [(3, .k (.ptr 3 0)), (5, lst 3 (kis ks)), (6, .int .i64 i)]) (fun _ => [(3, .var 25 [.c (lstC 1 (ints k.dr)), .c (lstC 1 (ints k.fi)), .c (.int .i64 k.mo)])]) (fun i => i ≤ ks.length ∧ provesG (ks.drop i) k = provesG ks k) (fun i => ks.length - i) 0 rfl rfl ⟨Nat.zero_le _, rfl⟩ ?_
  rintro i ⟨hi, hd⟩
  by_cases hlt : i < ks.length
  · have c1 : (i : Int) < ks.length := by omega
    have i0 : (0 : Int) ≤ (i : Int) := by omega
    have c4 : IntKind.i64.wrap ((i : Int) + 1) = (i : Int) + 1 := wrap_in (by omega) (by omega)
    have hpd : provesG (ks.drop i) k = (eqKi ks[i] k || provesG (ks.drop (i + 1)) k) := by rw [List.drop_eq_getElem_cons hlt]; rfl
    rw [hpd] at hd
    simp only [c1, c4, i0, kis_len, kis_at hlt, normRows_kis, Int.toNat_natCast, Qs, if_true, Nat.reduceAdd, Nat.reduceBEq, vv f18r3.eq_1, vv f18r7.eq_1, uu f18b8.eq_1, uu f18b9.eq_1, uu f18b10.eq_1, uu f18b11.eq_1, vv f18r12.eq_1, uu f18b13.eq_1, uu f18b14.eq_1]
    refine callQ_s (e30 ks[i] k) ?_ (ha := by simp [lendL, V.norm, encKi])
    cases hq : eqKi ks[i] k with
    | true =>
      rw [hq, Bool.true_or] at hd
      simp only [Qs, List.nodup_nil, vv f18r4.eq_1, uu f18b5.eq_1, uu f18b6.eq_1]
      exact fin hS (by rw [← hd])
    | false =>
      rw [hq, Bool.false_or] at hd
      simp only [c4, Qs, if_true, Nat.reduceBEq, uu f18b6.eq_1]
      exact Next.intro (i + 1) rfl rfl ⟨by omega, hd⟩ (by omega)
  · obtain rfl : i = ks.length := by omega
    have c1 : ¬ (ks.length : Int) < ks.length := by omega
    rw [List.drop_length] at hd
    simp only [c1, kis_len, Qs, if_true, List.nodup_nil, Nat.reduceBEq, vv f18r1.eq_1, uu f18b2.eq_1, uu f18b11.eq_1, vv f18r12.eq_1, uu f18b13.eq_1, uu f18b14.eq_1]
    exact fin hS (by rw [← hd]; rfl)
end Go.Abs


set_option maxRecDepth 100000
set_option maxHeartbeats 4000000
namespace Go.Abs
open Go.Proofs Go.RowKit
mutual
def C.noSz (n : Nat) : C → Bool
  | .list sz _ rows => (sz != n || rows.isEmpty) && C.noSzs n rows
  | .ro _ _ => false
  | .fn _ caps => C.noSzr n caps
  | .gl _ => false
  | .int _ _ => true
  | .bool _ => true
  | .str _ => true
  | .nilf => true
def C.noSzr (n : Nat) : List C → Bool
  | [] => true
  | c :: r => C.noSz n c && C.noSzr n r
def C.noSzs (n : Nat) : List (List C) → Bool
  | [] => true
  | r :: l => C.noSzr n r && C.noSzs n l
end
theorem noSzr_mem {n : Nat} : ∀ {r : List C} {c : C}, C.noSzr n r = true → c ∈ r → c.noSz n = true
  | [], _, _, h => absurd h (by simp)
  | a :: r, c, h, hm => by
    simp only [C.noSzr, Bool.and_eq_true] at h
    rcases List.mem_cons.1 hm with e | e
    · rw [e]; exact h.1
    · exact noSzr_mem h.2 e
theorem noSzs_mem {n : Nat} : ∀ {l : List (List C)} {r : List C}, C.noSzs n l = true → r ∈ l → C.noSzr n r = true
  | [], _, _, h => absurd h (by simp)
  | a :: l, r, h, hm => by
    simp only [C.noSzs, Bool.and_eq_true] at h
    rcases List.mem_cons.1 hm with e | e
    · rw [e]; exact h.1
    · exact noSzs_mem h.2 e
theorem PRep.unSz {w : World} {Z Z' : Bk → Prop} {n : Nat} (hz : ∀ k, Z k → k.1 ≠ n → Z' k) {c : C} {v : Value} (h : PRep w Z c v) : c.noSz n = true → PRep w Z' c v := by
  induction h with
  | int k n => exact fun _ => .int k n
  | bool b => exact fun _ => .bool b
  | str s => exact fun _ => .str s
  | nil sz nl h => exact fun _ => .nil sz nl h
  | emp sz nl a h => exact fun _ => .emp sz nl a h
  | list b o cap sz nl rows val h1 h2 h3 h4 h5 h6 _ ih =>
    intro hn
    simp only [C.noSz, Bool.and_eq_true, Bool.or_eq_true, bne_iff_ne] at hn
    refine .list b o cap sz nl rows val h1 h2 h3 (fun hne => hz _ (h4 hne) ?_) h5 h6 (fun i j r c hr hc => ih i j r c hr hc (noSzr_mem (noSzs_mem hn.2 (List.mem_of_getElem? hr)) (List.mem_of_getElem? hc)))
    rcases hn.1 with e | e
    · exact e
    · exact absurd (List.isEmpty_iff.1 e) hne
  | ro => exact fun h => absurd h (by simp [C.noSz])
  | nilf => exact fun _ => .nilf
  | gl => exact fun h => absurd h (by simp [C.noSz])
  | fn f caps vs val h1 h2 _ ih =>
    intro hn
    simp only [C.noSz] at hn
    exact .fn f caps vs val h1 h2 fun j c hc => ih j c hc (noSzr_mem hn (List.mem_of_getElem? hc))
theorem specS_lend {P : Program} {f e sz τ : Nat} {rows : List (List C)} {c : C} (hs : Spec P f [lst sz rows] (fun r => r = .k (.c c))) (hp : Plain sz rows) (hc : c.noSz sz = true) :
    SpecS P f [.k (.own τ)] (oneB e sz τ rows) [τ] (fun r o' => r = .k (.c c) ∧ o' = oneB e sz τ rows) := by
  refine ⟨hs.1, fun w0 Z0 κ w vs hsz hi => ?_⟩
  obtain ⟨v, rfl⟩ := vs_one hsz
  have ho : (oneB e sz τ rows) τ = some (.arr e sz none rows) := by simp [oneB]
  have hob := hi.objs τ _ ho
  have htm : VRep w (Zof w0 Z0 κ (oneB e sz τ rows) w) κ (oneB e sz τ rows) (.k (.own τ)) v := by simpa using hi.tmps 0
  let Z1 : Bk → Prop := fun k => k.1 = sz ∧ κ τ = some k.2
  have hZ1 : ∀ b, Z1 b → b.2 < w.heap.size := fun b hb => (hi.own τ b.2 (by simp [oneB]) hb.2).2
  have hrep : PRep w Z1 (lstC sz rows) v := by
    rcases hob with ⟨hκ, hrows, _⟩ | ⟨b, cur, cap, hκ, hheap, h0, hcs, hlen, hcap, _, hall, hrr⟩
    · have hv : v = .slice none 0 0 := by
        rcases htm.2 e sz none _ ho with ⟨_, hv⟩ | ⟨b, _, _, hb, _⟩
        · exact hv
        · rw [hκ] at hb; cases hb
      rw [hv, hrows]
      exact .nil _ _ (by simp)
    · obtain ⟨cap', hv, hcap'⟩ : ∃ cap', v = .slice (some ⟨b, 0, none⟩) rows.length cap' ∧ cur.size = cap' * sz := by
        rcases htm.2 e sz none _ ho with ⟨hn, _⟩ | ⟨b', cur', cap', hb, hh, hc2, hv⟩
        · rw [hκ] at hn; cases hn
        · rw [hκ] at hb; cases hb
          rw [hheap] at hh; cases hh
          exact ⟨cap', hv, hc2⟩
      have hcc : cap' = cap := Nat.eq_of_mul_eq_mul_right h0 (by rw [← hcs, ← hcap'])
      subst hcc
      rw [hv]
      by_cases hr : rows = []
      · subst hr
        exact .list b 0 cap' 0 none [] (fun _ _ => .bool true) (by simp) hlen hcap (fun h => absurd rfl h) (by simp) (fun i j r c h => by simp at h) (fun i j r c h => by simp at h)
      · have e1 : rows.isEmpty = false := by cases rows with
          | nil => exact absurd rfl hr
          | cons => rfl
        unfold lstC
        rw [e1]
        refine .list b 0 cap' sz none rows (fun i j => cur.getD (i * sz + j) (.bool true)) (by simp) hlen hcap (fun _ => ⟨rfl, hκ⟩) hall (fun i j r c hri hcj => ?_) (fun i j r c hri hcj => ?_)
        · obtain ⟨u, hu, _⟩ := hrr i j r c hri hcj
          simp only [World.cell?, hheap, Nat.zero_add]
          simp only [Option.isSome_none, Bool.false_eq_true, if_false]
          rw [hu, Array.getD_eq_getD_getElem?, hu]; rfl
        · obtain ⟨u, hu, hpu⟩ := hrr i j r c hri hcj
          have hsc := hp.sc r (List.mem_of_getElem? hri) c (List.mem_of_getElem? hcj)
          have : cur.getD (i * sz + j) (.bool true) = u := by rw [Array.getD_eq_getD_getElem?, hu]; rfl
          rw [this, sc_val hsc hpu]
          exact sc_rep hsc
  have hA : ARep w Z1 [lst sz rows] (#[v] : Array Value).toList := by
    refine ⟨rfl, fun j x u hx hu => ?_⟩
    match j, hx, hu with
    | 0, hx, hu =>
      cases hx; cases hu
      exact ⟨rfl, hrep.oneCell, hrep⟩
    | j + 1, hx, _ => simp at hx
  refine (hs.2 w Z1 #[v] hi.globB hZ1 hA).mono ?_
  rintro ex w' ⟨v', r, rfl, rfl, _, hrr⟩
  obtain ⟨κ', hI⟩ := hrr 0
  have hkept : Kept w w' := hI.kept
  have ht := hI.tmps 0
  simp only [if_true] at ht
  have hc0 : PRep w' (Zof (base w) Z1 κ' (tabOf 0 (V.reg 0 (V.k (.c c))).2) w') c v' := ht.2
  have hw0 : ∀ b, w0.B b → b < w.heap.size := fun b hb => Nat.lt_of_lt_of_le (w0.lt b hb) hi.kept.size
  have hold : ∀ b, b < w.heap.size → w'.heap[b]? = w.heap[b]? := fun b hb => hkept.block b hb
  refine ⟨v', κ, _, _, rfl, ⟨rfl, rfl⟩, fun t ht2 => ⟨Like.refl _, rfl, fun hne b hb cur e1 f1 hcur => ⟨cur, by rw [hold b (hi.own t b hne hb).2]; exact hcur, rfl⟩⟩, ?_⟩
  refine ⟨⟨hkept.os.trans hi.kept.os, hkept.tape.trans hi.kept.tape, hkept.output.trans hi.kept.output, Nat.le_trans hi.kept.size hkept.size, fun b hb => (hold b (hw0 b hb)).trans (hi.kept.block b hb)⟩, hi.glob, fun t b h hb => ?_, fun t t' b h h' hb hb' => hi.inj t t' b h h' hb hb', fun t ob h => ?_, fun s => ?_⟩
  · have := hi.own t b h hb
    exact ⟨this.1, Nat.lt_of_lt_of_le this.2 hkept.size⟩
  · by_cases htt : t = τ
    · subst htt
      have h : (oneB e sz t rows) t = some ob := h
      rw [ho] at h; cases h
      rcases hob with ⟨hκ, hrows, hnl⟩ | ⟨b, cur, cap, hκ, hheap, h0, hcs, hlen, hcap, hnl, hall, hrr2⟩
      · exact .inl ⟨hκ, hrows, hnl⟩
      · refine .inr ⟨b, cur, cap, hκ, by rw [hold b (heap_lt hheap)]; exact hheap, h0, hcs, hlen, hcap, hnl, hall, fun i j r c hri hcj => ?_⟩
        obtain ⟨u, hu, hpu⟩ := hrr2 i j r c hri hcj
        have hsc := hp.sc r (List.mem_of_getElem? hri) c (List.mem_of_getElem? hcj)
        exact ⟨u, hu, by rw [sc_val hsc hpu]; exact sc_rep hsc⟩
    · have h : (oneB e sz τ rows) t = some ob := h
      simp [oneB, htt] at h
  · by_cases hs0 : s = 0
    · subst hs0
      simp only [if_true]
      refine ⟨hc0.oneCell, hc0.unSz (fun k hk hne => ?_) hc⟩
      obtain ⟨h1, h2, h3⟩ := hk
      rcases h1 with ⟨h1, _⟩ | ⟨h1, h4⟩
      · exact absurd h1.1 hne
      · exact ⟨.inr ⟨fun hb => h1 (hw0 _ hb), h4⟩, h2, fun t ht2 hb => h1 (hi.own t k.2 ht2 hb).2⟩
    · simp only [hs0, if_false]; trivial
theorem call_lend {P : Program} {f d τ e sz : Nat} {xs : List AX} {K : KK} {ts : TS} {os : OS} {nl : Option Bool} {X : Prop} {c : C} {rows : List (List C)} (rows0 : List (List C))
    (hs : SpecS P f [.k (.own τ)] (oneB e sz τ rows) [τ] (fun r o' => r = .k (.c c) ∧ o' = oneB e sz τ rows)) (ho : lookO τ os = some (.arr e sz nl rows0)) (hn : C.normRows rows0 = rows)
    (hk : K (insT d (.k (.c c)) ts) (insO τ (.arr e sz none rows) os)) : X ∨ callSF P f [.k (.own τ)] xs K (some d) ts os := by
  refine .inr (.inl ?_)
  refine ⟨[τ], [τ], [], fun r o' => r = .k (.c c) ∧ o' = oneB e sz τ rows, by simp [V.within, Abs.K.within], rfl, ?_, fun s hs => .inl hs, ?_, ?_⟩
  · intro s hs ob hob
    simp only [List.mem_singleton] at hs
    subst hs
    rw [ho] at hob; cases hob; rfl
  · have e1 : (tabIn [τ] fun s => (lookO s os).map O.nrm) = oneB e sz τ rows := by
      funext s
      by_cases h : s = τ
      · subst h
        simp [tabIn, ho, oneB, O.nrm, hn]
      · simp [tabIn, oneB, h]
    rw [e1]; exact hs
  · rintro r o' ⟨rfl, rfl⟩
    refine ⟨fun s hs => by simp at hs; simp [oneB, hs], rfl, fun s ob h => ?_, ?_⟩
    · unfold oneB at h
      split at h
      · cases h; rfl
      · cases h
    · have e2 : (mkS ts os).back [τ] [] (oneB e sz τ rows) = mkS ts (insO τ (.arr e sz none rows) os) := by
        simp only [St.back, mkS, St.mk.injEq]
        refine ⟨by funext s; rfl, ?_⟩
        funext s
        rw [lookO_ins]
        by_cases h : s = τ
        · subst h; simp [oneB]
        · simp only [List.contains_cons, List.contains_nil, Bool.or_false, beq_iff_eq, h, if_false]
          cases lookO s os <;> rfl
      show onS K (((mkS ts os).back [τ] [] (oneB e sz τ rows)).put d (.k (.c c)))
      rw [e2, mkS_put]; exact onS_mk hk
theorem plain_drs (l : List Dr) : Plain 6 (drs l) := by
  refine ⟨by decide, fun r hr => ?_, fun r hr c hc => ?_⟩ <;> obtain ⟨s, _, rfl⟩ := List.mem_map.1 hr
  · rfl
  · simp [encD] at hc; rcases hc with rfl | rfl | rfl | rfl | rfl | rfl <;> rfl
theorem noSz_ints (n : Nat) (h : n ≠ 1) (l : List Int) : C.noSzs n (ints l) = true := by
  induction l with
  | nil => rfl
  | cons a l ih =>
    have e : ints (a :: l) = [.int .i64 a] :: ints l := rfl
    rw [e, C.noSzs, ih]; rfl
theorem noSz_lst1 (n : Nat) (h : n ≠ 1) (l : List Int) : (lstC 1 (ints l)).noSz n = true := by
  unfold lstC
  cases l with
  | nil => simp [C.noSz, noSz_ints n h, ints, C.noSzs]
  | cons a l => simp [C.noSz, noSz_ints n h, Ne.symm h]
theorem noSz_kis (l : List Ki) : C.noSzs 6 (kis l) = true := by
  induction l with
  | nil => rfl
  | cons a l ih =>
    have e : kis (a :: l) = encKi a :: kis l := rfl
    rw [e, C.noSzs, ih]
    simp [encKi, C.noSzr, noSz_lst1, C.noSz]
theorem noSz_lst3 (l : List Ki) : (lstC 3 (kis l)).noSz 6 = true := by
  unfold lstC
  cases l with
  | nil => simp [C.noSz, kis, C.noSzs]
  | cons a l =>
    have e : (kis (a :: l)).isEmpty = false := rfl
    rw [e]
    show (((3 : Nat) != 6 || (kis (a :: l)).isEmpty) && C.noSzs 6 (kis (a :: l))) = true
    rw [noSz_kis]; rfl
theorem n15 (τ : Nat) (l : List Dr) : SpecS Try.prog 15 [.k (.own τ)] (oneB 40 6 τ (drs l)) [τ] (fun r o' => r = .k (.c (lstC 3 (kis (kitesG l)))) ∧ o' = oneB 40 6 τ (drs l)) :=
  specS_lend (d15 l) (plain_drs l) (noSz_lst3 _)
theorem n20 (τ : Nat) (l : List Dr) : SpecS Try.prog 20 [.k (.own τ)] (oneB 40 6 τ (drs l)) [τ] (fun r o' => r = .k (.c (lstC 1 (ints (ringG l)))) ∧ o' = oneB 40 6 τ (drs l)) :=
  specS_lend (e20 l) (plain_drs l) (noSz_lst1 6 (by decide) _)
end Go.Abs


set_option maxRecDepth 100000
set_option maxHeartbeats 4000000
namespace Go.Abs
open Go.Proofs Go.RowKit
def fewD (x : Dr) : Bool := !((firmB x.d && decide (x.d ≥ 6)) || (firmB x.a && decide (x.a ≥ 6)))
def fewG (l : List Dr) : Bool := (l.take 110).all fewD && (decide ((l.length : Int) ≤ 20) || (decide ((l.length : Int) > 100) && decide ((l.length : Int) ≤ 110)))
theorem e9 (l : List Dr) : Spec Try.prog 9 [lst 6 (drs l)] (fun r => r = .bool (fewG l)) := by
  refine Spec.of_awlS hf9 okf9 (by simp) fun S hS => ?_
  simp only [drs_len, normRows_drs, Qs, uu f9.eq_1, uu f9b16.eq_1, vv f9r17.eq_1, uu f9b18.eq_1, uu f9b19.eq_1, vv f9r20.eq_1, uu f9b21.eq_1]
  rw [uu f9l15.eq_1]
  have hend : (l.take 110).all fewD = true → ∀ i : Nat, i ≤ l.length → ¬ ((i : Int) < l.length ∧ (i : Int) < 110) → True := fun _ _ _ _ => trivial
  refine awl_loop (fun i : Nat => [(0, lst 6 (drs l)), (3, .int .i64 i)]) (fun _ => []) (fun i => i ≤ l.length ∧ i ≤ 110 ∧ (l.take i).all fewD = true) (fun i => l.length - i) 0 rfl rfl ⟨Nat.zero_le _, Nat.zero_le _, rfl⟩ ?_
  rintro i ⟨hi, hi2, hd⟩
  by_cases h1 : (i : Int) < l.length
  · by_cases h2 : (i : Int) < 110
    · have c4 : IntKind.i64.wrap ((i : Int) + 1) = (i : Int) + 1 := wrap_in (by omega) (by omega)
      have i0 : (0 : Int) ≤ (i : Int) := by omega
      have hlt : i < l.length := by omega
      have hat := drs_nat hlt
      have hmem : dat l i ∈ l.take 110 := by
        rw [dat_nat hlt]
        exact List.mem_take_iff_getElem.2 ⟨i, by omega, rfl⟩
      have hno : fewD (dat l i) = false → fewG l = false := fun h => by
        unfold fewG
        have : (l.take 110).all fewD = false := by rw [List.all_eq_false]; exact ⟨_, hmem, by rw [h]; simp⟩
        rw [this, Bool.false_and]
      have hyes : fewD (dat l i) = true → (l.take (i + 1)).all fewD = true := fun h => by
        rw [List.take_succ_eq_append_getElem hlt, List.all_append, hd]
        rw [dat_nat hlt] at h
        simp [h]
      generalize dat l (i : Int) = x at hat hno hyes
      unfold fewD at hno hyes
      simp only [h1, h2, c4, i0, hat, drs_len, normRows_drs, Int.toNat_natCast, Qs, if_true, Nat.reduceLeDiff, Nat.reduceBEq, vv f9r3.eq_1, vv f9r7.eq_1, uu f9b8.eq_1, uu f9b9.eq_1, uu f9b10.eq_1, uu f9b11.eq_1, vv f9r12.eq_1, uu f9b13.eq_1, uu f9b14.eq_1]
      refine call_s (d26 x.d) ?_
      have second : ∀ (T : Prop), T = T := fun _ => rfl
      cases f1 : firmB x.d with
      | true =>
        by_cases g1 : x.d ≥ 6
        · rw [hno (by rw [f1, decide_eq_true g1]; rfl)] at hS
          simp only [g1, h1, hat, i0, drs_len, normRows_drs, Int.toNat_natCast, Qs, if_true, List.nodup_nil, Nat.reduceLeDiff, Nat.reduceBEq, vv f9r4.eq_1, uu f9b5.eq_1, uu f9b6.eq_1]
          exact hS
        · simp only [g1, h1, hat, i0, drs_len, normRows_drs, Int.toNat_natCast, Qs, if_true, Nat.reduceAdd, Nat.reduceLeDiff, Nat.reduceBEq]
          refine call_s (d26 x.a) ?_
          cases f2 : firmB x.a with
          | true =>
            by_cases g2 : x.a ≥ 6
            · rw [hno (by rw [f1, f2, decide_eq_true g2]; simp)] at hS
              simp only [g2, h1, hat, i0, drs_len, normRows_drs, Int.toNat_natCast, Qs, if_true, if_false, List.nodup_nil, Nat.reduceAdd, Nat.reduceLeDiff, Nat.reduceBEq, vv f9r4.eq_1, uu f9b5.eq_1, uu f9b6.eq_1]
              exact hS
            · simp only [g2, h1, hat, i0, c4, drs_len, normRows_drs, Int.toNat_natCast, Qs, if_true, if_false, Nat.reduceAdd, Nat.reduceLeDiff, Nat.reduceBEq, uu f9b6.eq_1]
              exact Next.intro (i + 1) rfl rfl ⟨by omega, by omega, hyes (by rw [f1, f2, decide_eq_false g1, decide_eq_false g2]; rfl)⟩ (by omega)
          | false =>
            simp only [h1, hat, i0, c4, drs_len, normRows_drs, Int.toNat_natCast, Qs, if_true, if_false, Nat.reduceBEq, uu f9b6.eq_1]
            exact Next.intro (i + 1) rfl rfl ⟨by omega, by omega, hyes (by rw [f1, f2, decide_eq_false g1]; rfl)⟩ (by omega)
      | false =>
        simp only [h1, hat, i0, drs_len, normRows_drs, Int.toNat_natCast, Qs, Nat.reduceAdd, Nat.reduceLeDiff, Nat.reduceBEq]
        refine call_s (d26 x.a) ?_
        cases f2 : firmB x.a with
        | true =>
          by_cases g2 : x.a ≥ 6
          · rw [hno (by rw [f1, f2, decide_eq_true g2]; simp)] at hS
            simp only [g2, h1, hat, i0, drs_len, normRows_drs, Int.toNat_natCast, Qs, if_true, if_false, List.nodup_nil, Nat.reduceAdd, Nat.reduceLeDiff, Nat.reduceBEq, vv f9r4.eq_1, uu f9b5.eq_1, uu f9b6.eq_1]
            exact hS
          · simp only [g2, h1, hat, i0, c4, drs_len, normRows_drs, Int.toNat_natCast, Qs, if_true, if_false, Nat.reduceAdd, Nat.reduceLeDiff, Nat.reduceBEq, uu f9b6.eq_1]
            exact Next.intro (i + 1) rfl rfl ⟨by omega, by omega, hyes (by rw [f1, f2, decide_eq_false g2]; rfl)⟩ (by omega)
        | false =>
          simp only [h1, hat, i0, c4, drs_len, normRows_drs, Int.toNat_natCast, Qs, if_true, if_false, Nat.reduceBEq, uu f9b6.eq_1]
          exact Next.intro (i + 1) rfl rfl ⟨by omega, by omega, hyes (by rw [f1, f2]; rfl)⟩ (by omega)
    · have e : fewG l = (decide ((l.length : Int) ≤ 20) || (decide ((l.length : Int) > 100) && decide ((l.length : Int) ≤ 110))) := by
        unfold fewG
        rw [show (110 : Nat) = i by omega, hd, Bool.true_and]
      rw [e] at hS
      by_cases g1 : (l.length : Int) ≤ 20
      · rw [decide_eq_true g1, Bool.true_or] at hS
        simp only [h1, h2, g1, drs_len, Qs, if_true, List.nodup_nil, Nat.reduceBEq, vv f9r1.eq_1, uu f9b2.eq_1, uu f9b11.eq_1, vv f9r12.eq_1, uu f9b13.eq_1, uu f9b14.eq_1]; exact hS
      by_cases g2 : (l.length : Int) > 100
      · by_cases g3 : (l.length : Int) ≤ 110
        · rw [decide_eq_false g1, decide_eq_true g2, decide_eq_true g3] at hS
          simp only [h1, h2, g1, g2, g3, drs_len, Qs, if_true, if_false, List.nodup_nil, Nat.reduceBEq, vv f9r1.eq_1, uu f9b2.eq_1, uu f9b11.eq_1, vv f9r12.eq_1, uu f9b13.eq_1, uu f9b14.eq_1]; exact hS
        · rw [decide_eq_false g1, decide_eq_true g2, decide_eq_false g3] at hS
          simp only [h1, h2, g1, g2, g3, drs_len, Qs, if_true, if_false, List.nodup_nil, Nat.reduceBEq, vv f9r1.eq_1, uu f9b2.eq_1, uu f9b11.eq_1, vv f9r12.eq_1, uu f9b13.eq_1, uu f9b14.eq_1]; exact hS
      · rw [decide_eq_false g1, decide_eq_false g2] at hS
        simp only [h1, h2, g1, g2, drs_len, Qs, if_true, if_false, List.nodup_nil, Nat.reduceBEq, vv f9r1.eq_1, uu f9b2.eq_1, uu f9b11.eq_1, vv f9r12.eq_1, uu f9b13.eq_1, uu f9b14.eq_1]; exact hS
  · have e : fewG l = (decide ((l.length : Int) ≤ 20) || (decide ((l.length : Int) > 100) && decide ((l.length : Int) ≤ 110))) := by
      unfold fewG
      have : l.take 110 = l.take i := by rw [List.take_of_length_le (by omega), List.take_of_length_le (by omega)]
      rw [this, hd, Bool.true_and]
    rw [e] at hS
    by_cases g1 : (l.length : Int) ≤ 20
    · rw [decide_eq_true g1, Bool.true_or] at hS
      simp only [h1, g1, drs_len, Qs, if_true, List.nodup_nil, Nat.reduceBEq, vv f9r1.eq_1, uu f9b2.eq_1, uu f9b11.eq_1, vv f9r12.eq_1, uu f9b13.eq_1, uu f9b14.eq_1]; exact hS
    by_cases g2 : (l.length : Int) > 100
    · by_cases g3 : (l.length : Int) ≤ 110
      · rw [decide_eq_false g1, decide_eq_true g2, decide_eq_true g3] at hS
        simp only [h1, g1, g2, g3, drs_len, Qs, if_true, if_false, List.nodup_nil, Nat.reduceBEq, vv f9r1.eq_1, uu f9b2.eq_1, uu f9b11.eq_1, vv f9r12.eq_1, uu f9b13.eq_1, uu f9b14.eq_1]; exact hS
      · rw [decide_eq_false g1, decide_eq_true g2, decide_eq_false g3] at hS
        simp only [h1, g1, g2, g3, drs_len, Qs, if_true, if_false, List.nodup_nil, Nat.reduceBEq, vv f9r1.eq_1, uu f9b2.eq_1, uu f9b11.eq_1, vv f9r12.eq_1, uu f9b13.eq_1, uu f9b14.eq_1]; exact hS
    · rw [decide_eq_false g1, decide_eq_false g2] at hS
      simp only [h1, g1, g2, drs_len, Qs, if_true, if_false, List.nodup_nil, Nat.reduceBEq, vv f9r1.eq_1, uu f9b2.eq_1, uu f9b11.eq_1, vv f9r12.eq_1, uu f9b13.eq_1, uu f9b14.eq_1]; exact hS
end Go.Abs


set_option maxRecDepth 100000
set_option maxHeartbeats 4000000
namespace Go.Abs
open Go.Proofs Go.RowKit
def ex0 : List Dr := [⟨1, 2, 100, 0, 30, -1⟩, ⟨2, 3, 90, 29, 59, 0⟩, ⟨3, 1, 100, 50, 90, 1⟩]
def ex1 : List Dr := [⟨1, 2, 100, 0, 30, -1⟩, ⟨2, 3, 90, 29, 59, 0⟩, ⟨3, 2, 100, 50, 90, 1⟩]
def ex2 : List Dr := [⟨1, 2, 100, 0, 30, -1⟩, ⟨2, 3, 90, 29, 59, 0⟩, ⟨3, 2, 100, 50, 90, 2⟩]
theorem e25 : Spec Try.prog 25 [] (fun r => r = .k (.newl 40 6 (some false) (drs ex0))) := by
  refine Spec.of_awlX hf25 okf25 (by simp) fun S hS => ?_
  simp only [endKX_ret, endKX_normal, Qs, if_true, reduceCtorEq, forall_eq_or_imp, forall_eq, bne_iff_ne, ne_eq, Int.reduceNeg, List.append_nil, List.mem_cons, List.nodup_nil, List.nodup_cons, Nat.reduceAdd, Nat.reduceLeDiff, Nat.reduceLT, Nat.reduceBEq, List.not_mem_nil, uu f25.eq_1, vv f25r1.eq_1, uu f25b2.eq_1, vv f25r3.eq_1, uu f25b4.eq_1]
  exact hS
theorem chk_ex0 : chkG ex0 = 0 := by kernel_rfl
theorem chk_ex2 : chkG ex2 = 2 := by kernel_rfl
theorem kit_ex0 : sameAll (kitesG ex0) [⟨[0, 1, 2], [1, 2, 3], 10⟩] = true := by kernel_rfl
theorem kit_ex1 : sameAll (kitesG ex1) [⟨[1, 2], [2, 3], 0⟩] = true := by kernel_rfl
theorem prv_ex1 : provesG (kitesG ex1) ⟨[1, 2], [2, 3], 0⟩ = true := by kernel_rfl
theorem prn_ex1 : provesG (kitesG ex1) ⟨[1, 2], [2, 3], 1⟩ = false := by kernel_rfl
theorem kit_ex2 : kitesG ex2 = [] := by unfold kitesG; rw [chk_ex2]; rfl
theorem own_ex00 : ownG ex0 0 = 10 := by kernel_rfl
theorem own_ex02 : ownG ex0 2 = 100 := by kernel_rfl
theorem ring_ex0 : ringG ex0 = [1, 2, 3] := by
  unfold ringG
  rw [chk_ex0, if_pos rfl, (ring_both (right_of chk_ex0)).1]
  kernel_rfl
theorem frzL_nil (K : KK) (ts : TS) (os : OS) : frzL [] K ts os = K ts os := id rfl
theorem frzL_cons (τ : Nat) (l : List Nat) (K : KK) (ts : TS) (os : OS) : frzL (τ :: l) K ts os = frzL l K (frzT τ ts os (lookO τ os)) (frzO τ os (lookO τ os)) := id rfl
theorem wpLPs_nil (P : Program) (K : KK) (ts : TS) (os : OS) : wpLPs P [] K ts os = K ts os := id rfl
theorem wpLPs_cons (P : Program) (l : List AI) (τs : List Nat) (r : List (List AI × List Nat)) (K : KK) (ts : TS) (os : OS) : wpLPs P ((l, τs) :: r) K ts os = wpLs P l (frzL τs (wpLPs P r K)) ts os := id rfl
theorem awl_regs (P : Program) (ps : List (List AI × List Nat)) (Q : AE → KK) (ts : TS) (os : OS) : awl P (.regs ps) Q ts os = wpLPs P ps (Q .normal) ts os := id rfl
theorem awl_regf (P : Program) (l1 l2 : List AI) (τs : List Nat) (Q : AE → KK) (ts : TS) (os : OS) : awl P (.regf l1 τs l2) Q ts os = wpLs P l1 (frzL τs (wpLs P l2 (Q .normal))) ts os := id rfl
theorem e8 : Spec Try.prog 8 [] (fun r => r = .bool true) := by
  refine Spec.of_awlS hf8 okf8 (by simp) fun S hS => ?_
  simp only [Qs, uu f8.eq_1, vv f8r17.eq_1, uu f8b18.eq_1, vv f8r19.eq_1, uu f8b20.eq_1]
  refine call_l e25 ?_
  have z1 : ((1 : Int) == 1) = true := rfl
  simp only [Qs, vv f8r15.eq_1, uu f8b16.eq_1]
  refine call_lend (drs ex0) (n15 5 ex0) rfl (normRows_drs _) ?_
  have k1 : kis [⟨[0, 1, 2], [1, 2, 3], 10⟩] = [[lstC 1 (ints [0, 1, 2]), lstC 1 (ints [1, 2, 3]), .int .i64 10]] := rfl
  have k2 : kis [⟨[1, 2], [2, 3], 0⟩] = [[lstC 1 (ints [1, 2]), lstC 1 (ints [2, 3]), .int .i64 0]] := rfl
  simp only [awl_regs, awl_regf, wpLPs_nil, wpLPs_cons, frzL_nil, frzL_cons, normRows_kis, normRows_drs, normRows_ints, Qs, if_true, if_false, forall_eq_or_imp, forall_eq, bne_iff_ne, ne_eq, List.append_nil, List.mem_cons, Nat.reduceAdd, Nat.reduceEqDiff, Nat.reduceLeDiff, Nat.reduceLT, Nat.reduceBEq, List.not_mem_nil, vv f8r12.eq_1, vv f8r13.eq_1, uu f8b14.eq_1]
  refine call_s (e14 (kitesG ex0) [⟨[0, 1, 2], [1, 2, 3], 10⟩]) ?_ (ha := by simp [lendL, lendO, lookO, V.norm, norm_list, lst, normRows_kis, normRows_drs, k1, ints])
  simp only [kit_ex0, awl_regs, awl_regf, wpLPs_nil, wpLPs_cons, frzL_nil, frzL_cons, normRows_kis, normRows_drs, normRows_ints, Qs, Nat.reduceBEq]
  refine call_lend (drs ex0) (n20 5 ex0) rfl (normRows_drs _) ?_
  simp only [ring_ex0, awl_regs, awl_regf, wpLPs_nil, wpLPs_cons, frzL_nil, frzL_cons, normRows_kis, normRows_drs, normRows_ints, Qs, forall_eq_or_imp, forall_eq, bne_iff_ne, ne_eq, List.mem_cons, Nat.reduceEqDiff, Nat.reduceLT, Nat.reduceBEq, List.not_mem_nil]
  refine call_s (e19 [1, 2, 3] [1, 2, 3]) ?_ (ha := by simp [lendL, lendO, lookO, V.norm, norm_list, lst, normRows_kis, normRows_drs, ints])
  simp only [decide_true, awl_regs, awl_regf, wpLPs_nil, wpLPs_cons, frzL_nil, frzL_cons, normRows_kis, normRows_drs, normRows_ints, Qs, if_true, Nat.reduceBEq]
  refine call_s (d12 ex0 0) ?_ (ha := by simp [lendL, lendO, lookO, V.norm, norm_list, lst, normRows_kis, normRows_drs, ints])
  have w1 : ((10 : Int) == 10) = true := rfl
  have w2 : ((100 : Int) == 100) = true := rfl
  simp only [own_ex00, w1, awl_regs, awl_regf, wpLPs_nil, wpLPs_cons, frzL_nil, frzL_cons, normRows_kis, normRows_drs, normRows_ints, Qs, if_true, Nat.reduceBEq]
  refine call_s (d12 ex0 2) ?_ (ha := by simp [lendL, lendO, lookO, V.norm, norm_list, lst, normRows_kis, normRows_drs, ints])
  have l0 : (2 : Int) < ((drs ex0).length : Int) := by decide
  have l1 : (0 : Int) ≤ 2 := by decide
  have l2 : (2 : Int).toNat = 2 := rfl
  have s1 : (drs ex0).getD 2 [] = [.int .i64 3, .int .i64 1, .int .i64 100, .int .i64 50, .int .i64 90, .int .i64 1] := rfl
  have s2 : (drs ex0).set 2 [.int .i64 3, .int .i64 2, .int .i64 100, .int .i64 50, .int .i64 90, .int .i64 1] = drs ex1 := rfl
  simp only [own_ex02, w2, l0, l1, l2, s1, s2, awl_regs, awl_regf, wpLPs_nil, wpLPs_cons, frzL_nil, frzL_cons, normRows_kis, normRows_drs, normRows_ints, Qs, q_vFaddr_eq_2, if_true, if_false, Nat.reduceAdd, Nat.reduceEqDiff, Nat.reduceLeDiff, Nat.reduceBEq, vv f8r5.eq_1, vv f8r6.eq_1, vv f8r7.eq_1, vv f8r8.eq_1, uu f8b9.eq_1, vv f8r10.eq_1, uu f8b11.eq_1]
  refine call_lend (drs ex1) (n15 5 ex1) rfl (normRows_drs _) ?_
  simp only [awl_regs, awl_regf, wpLPs_nil, wpLPs_cons, frzL_nil, frzL_cons, normRows_kis, normRows_drs, normRows_ints, Qs, if_true, if_false, forall_eq_or_imp, forall_eq, bne_iff_ne, ne_eq, List.append_nil, List.mem_cons, Nat.reduceAdd, Nat.reduceEqDiff, Nat.reduceLeDiff, Nat.reduceLT, Nat.reduceBEq, List.not_mem_nil]
  refine call_s (e14 (kitesG ex1) [⟨[1, 2], [2, 3], 0⟩]) ?_ (ha := by simp [lendL, lendO, lookO, V.norm, norm_list, lst, normRows_kis, normRows_drs, k2, ints])
  simp only [kit_ex1, awl_regs, awl_regf, wpLPs_nil, wpLPs_cons, frzL_nil, frzL_cons, normRows_kis, normRows_drs, normRows_ints, Qs, q_AOp_dst_eq_6, if_true, if_false, forall_eq_or_imp, forall_eq, bne_iff_ne, ne_eq, List.mem_cons, Nat.reduceAdd, Nat.reduceEqDiff, Nat.reduceLeDiff, Nat.reduceLT, Nat.reduceBEq, List.not_mem_nil]
  refine call_s (e17 ex1 ⟨[1, 2], [2, 3], 0⟩) ?_ (ha := by simp [lendL, lendO, lookO, V.norm, norm_list, lst, normRows_kis, normRows_drs, encKi, ints])
  simp only [prv_ex1, awl_regs, awl_regf, wpLPs_nil, wpLPs_cons, frzL_nil, frzL_cons, normRows_kis, normRows_drs, normRows_ints, Qs, q_AOp_dst_eq_6, if_true, if_false, forall_eq_or_imp, forall_eq, bne_iff_ne, ne_eq, List.append_nil, List.mem_cons, Nat.reduceAdd, Nat.reduceEqDiff, Nat.reduceLeDiff, Nat.reduceLT, Nat.reduceBEq, List.not_mem_nil]
  refine call_s (e17 ex1 ⟨[1, 2], [2, 3], 1⟩) ?_ (ha := by simp [lendL, lendO, lookO, V.norm, norm_list, lst, normRows_kis, normRows_drs, encKi, ints])
  have m0 : (2 : Int) < ((drs ex1).length : Int) := by decide
  have m1 : (drs ex1).getD 2 [] = [.int .i64 3, .int .i64 2, .int .i64 100, .int .i64 50, .int .i64 90, .int .i64 1] := rfl
  have m2 : (drs ex1).set 2 [.int .i64 3, .int .i64 2, .int .i64 100, .int .i64 50, .int .i64 90, .int .i64 2] = drs ex2 := rfl
  have w3 : ((2 : Int) == 2) = true := rfl
  have w4 : ((0 : Int) == 0) = true := rfl
  simp only [prn_ex1, m0, l1, l2, m1, m2, awl_regs, awl_regf, wpLPs_nil, wpLPs_cons, frzL_nil, frzL_cons, normRows_kis, normRows_drs, normRows_ints, Qs, q_vFaddr_eq_2, if_true, if_false, reduceCtorEq, List.append_nil, Nat.reduceAdd, Nat.reduceEqDiff, Nat.reduceBEq, vv f8r1.eq_1, uu f8b2.eq_1, vv f8r3.eq_1, uu f8b4.eq_1]
  refine call_s (d10 ex2) ?_ (ha := by simp [lendL, lendO, lookO, V.norm, norm_list, lst, normRows_kis, normRows_drs, ints])
  simp only [chk_ex2, w3, awl_regs, awl_regf, wpLPs_nil, wpLPs_cons, frzL_nil, frzL_cons, normRows_kis, normRows_drs, normRows_ints, Qs, if_true, Nat.reduceBEq]
  refine call_s (d10 []) ?_ (ha := by simp [lendL, V.norm, norm_list, lst, drs, lstC])
  have c0 : chkG [] = 0 := rfl
  simp only [c0, w4, awl_regs, awl_regf, wpLPs_nil, wpLPs_cons, frzL_nil, frzL_cons, normRows_kis, normRows_drs, normRows_ints, Qs, if_true, Nat.reduceBEq]
  refine call_lend (drs ex2) (n15 5 ex2) rfl (normRows_drs _) ?_
  have kn : ((kis ([] : List Ki)).length : Int) = 0 := rfl
  simp only [kit_ex2, kn, w4, awl_regs, awl_regf, wpLPs_nil, wpLPs_cons, frzL_nil, frzL_cons, normRows_kis, normRows_drs, normRows_ints, Qs, q_List_isEmpty_cons, if_true, if_false, List.nodup_nil, Nat.reduceBEq]
  exact hS
end Go.Abs


set_option maxRecDepth 100000
set_option maxHeartbeats 4000000
namespace Go.Abs
open Go.Proofs Go.RowKit
end Go.Abs


set_option maxRecDepth 100000
namespace Go.Abs
section
variable {P : Program}
theorem shapeL6 {S : TypeId → List C → Prop} {a b c d e f : TypeId} {rs : List (List C)} (h : ShapeL S [a, b, c, d, e, f] rs) : ∃ x y z u v w, rs = [x, y, z, u, v, w] ∧ S a x ∧ S b y ∧ S c z ∧ S d u ∧ S e v ∧ S f w := by
  match rs, h with
  | [x, y, z, u, v, w], h => exact ⟨x, y, z, u, v, w, rfl, h.1, h.2.1, h.2.2.1, h.2.2.2.1, h.2.2.2.2.1, h.2.2.2.2.2.1⟩
theorem shape_dr {n : Nat} {t tI : TypeId} {fs : Array Field} {r : List C} (ht : P.underlying t = some (.struct fs)) (hf : fs.toList.map (·.type) = [tI, tI, tI, tI, tI, tI]) (hi : P.underlying tI = some (.int .i64)) (hr : Shape P n t r) : ∃ x : Dr, r = encD x := by
  obtain ⟨m, rs, _, rfl, h⟩ := shape_struct ht hr
  rw [hf] at h
  obtain ⟨x, y, z, u, v, w, rfl, h1, h2, h3, h4, h5, h6⟩ := shapeL6 h
  obtain ⟨a1, rfl, _⟩ := shape_int hi h1
  obtain ⟨a2, rfl, _⟩ := shape_int hi h2
  obtain ⟨a3, rfl, _⟩ := shape_int hi h3
  obtain ⟨a4, rfl, _⟩ := shape_int hi h4
  obtain ⟨a5, rfl, _⟩ := shape_int hi h5
  obtain ⟨a6, rfl, _⟩ := shape_int hi h6
  exact ⟨⟨a1, a2, a3, a4, a5, a6⟩, rfl⟩
theorem arg_drs {n : Nat} {t e tI : TypeId} {fs : Array Field} {r : List C} (ht : P.underlying t = some (.slice e)) (he : P.underlying e = some (.struct fs)) (hf : fs.toList.map (·.type) = [tI, tI, tI, tI, tI, tI]) (hi : P.underlying tI = some (.int .i64)) (hc : P.cellsOf e = 6)
    (hr : Shape P n t r) : ∃ l : List Dr, argV P t r = lst 6 (drs l) := by
  obtain ⟨m, rows, _, rfl, _, h⟩ := shape_slice ht hr
  obtain ⟨l, rfl⟩ := rows_of encD (fun r hr => shape_dr he hf hi hr) rows h
  exact ⟨l, by simp only [argV, ht, hc]; rfl⟩
theorem shape_il {n : Nat} {t e : TypeId} {r : List C} (ht : P.underlying t = some (.slice e)) (he : P.underlying e = some (.int .i64)) (hc : P.cellsOf e = 1) (hr : Shape P n t r) : ∃ l : List Int, r = [lstC 1 (ints l)] := by
  obtain ⟨m, rows, _, rfl, _, h⟩ := shape_slice ht hr
  obtain ⟨l, rfl⟩ := rows_of encI (fun r hr => by obtain ⟨x, rfl, _⟩ := shape_int he hr; exact ⟨x, rfl⟩) rows h
  exact ⟨l, by rw [hc]; rfl⟩
theorem arg_ki {n : Nat} {t tL tI : TypeId} {fs : Array Field} {r : List C} (ht : P.underlying t = some (.struct fs)) (hf : fs.toList.map (·.type) = [tL, tL, tI]) (hl : P.underlying tL = some (.slice tI)) (hi : P.underlying tI = some (.int .i64)) (hc : P.cellsOf tI = 1)
    (hr : Shape P n t r) : ∃ x : Ki, argV P t r = .agg (encKi x) := by
  obtain ⟨m, rs, _, rfl, h⟩ := shape_struct ht hr
  rw [hf] at h
  obtain ⟨x, y, z, rfl, h1, h2, h3⟩ := shapeL3 h
  obtain ⟨a, rfl⟩ := shape_il hl hi hc h1
  obtain ⟨b, rfl⟩ := shape_il hl hi hc h2
  obtain ⟨c, rfl, _⟩ := shape_int hi h3
  exact ⟨⟨a, b, c⟩, by simp only [argV, ht]; rfl⟩
end
end Go.Abs
namespace Go.Proofs.Ytefmlddbkmgliaa
open Go.Abs Go.RowKit
theorem own : ownKnob Try.prog.godebug = none := by kernel_rfl
theorem kids : Kids Try.prog (· < Try.prog.types.size) := kids_rows (by kernel_rfl) (by kernel_rfl)
theorem full : ∀ t e, t < Try.prog.types.size → Try.prog.underlying t = some (.slice e) → 0 < Try.prog.cellsOf e := slices_full_of Try.prog (by kernel_rfl)
def plainTs : List TypeId := [3, 4, 5, 22, 23, 25, 40, 45]
theorem plainTs_ok : plainT Try.prog plainTs = true := by kernel_rfl
theorem plainTs_lt : ∀ t ∈ plainTs, t < Try.prog.types.size := by
  have : plainTs.all (fun t => decide (t < Try.prog.types.size)) = true := by kernel_rfl
  simpa using this
end Go.Proofs.Ytefmlddbkmgliaa


set_option maxRecDepth 100000
set_option maxHeartbeats 4000000
namespace Go.Abs
open Go.Proofs Go.RowKit
theorem l3 (l : List Dr) (k : Ki) (n : Int) : Spec Try.prog 3 [lst 6 (drs l), .agg (encKi k), .int .i64 n] (fun r => r = .bool true) := by
  refine Spec.of_awlS hf3 okf3 (by simp) fun S hS => ?_
  have hke : encKi k = [lstC 1 (ints k.dr), lstC 1 (ints k.fi), .int .i64 k.mo] := rfl
  rw [hke]
  simp only [Qs, Nat.reduceAdd, Nat.reduceBEq, uu f3.eq_1, vv f3r9.eq_1, uu f3b10.eq_1, vv f3r11.eq_1, uu f3b12.eq_1]
  refine call_s e8 ?_
  simp only [normRows_drs, Qs, Nat.reduceBEq, vv f3r6.eq_1, uu f3b7.eq_1, uu f3b8.eq_1]
  refine call_s (e9 l) ?_ (ha := by simp [lendL, V.norm, lst, normRows_drs])
  cases hf : fewG l with
  | false => simp only [Qs, List.nodup_nil, Nat.reduceBEq, vv f3r3.eq_1, uu f3b4.eq_1, uu f3b5.eq_1]; exact hS
  | true =>
  by_cases h1 : (k.dr.length : Int) > 30
  · simp only [h1, ints_len, Qs, if_true, if_false, List.nodup_nil, Nat.reduceAdd, Nat.reduceLeDiff, Nat.reduceBEq, vv f3r3.eq_1, uu f3b4.eq_1, uu f3b5.eq_1]; exact hS
  by_cases h2 : (k.fi.length : Int) > 30
  · simp only [h1, h2, ints_len, Qs, if_true, if_false, List.nodup_nil, Nat.reduceAdd, Nat.reduceLeDiff, Nat.reduceBEq, vv f3r3.eq_1, uu f3b4.eq_1, uu f3b5.eq_1]; exact hS
  have b1 : (chkG l == chkG l) = true := by simp
  have b2 : (ownG l n == ownG l n) = true := by simp
  have b3 : (provesG (kitesG l) k == provesG (kitesG l) k) = true := by simp
  have b4 := sameAll_refl (kitesG l)
  have g15 : Spec Try.prog 15 [lst 6 (drs l)] (fun r => r = lst 3 (kis (kitesG l))) := d15 l
  simp only [h1, h2, ints_len, normRows_drs, Qs, if_true, if_false, Nat.reduceAdd, Nat.reduceLeDiff, Nat.reduceBEq, vv f3r1.eq_1, uu f3b2.eq_1, uu f3b5.eq_1]
  refine callQ_s (d10 l) ?_ (ha := by simp [lendL, V.norm, lst, normRows_drs])
  simp only [normRows_drs, Qs, Nat.reduceBEq]
  refine callQ_s (d11 l) ?_ (ha := by simp [lendL, V.norm, lst, normRows_drs])
  simp only [b1, V.fz, Abs.K.fz, normRows_drs, Qs, if_true, Nat.reduceBEq]
  refine callQ_s (d12 l n) ?_ (ha := by simp [lendL, V.norm, lst, normRows_drs])
  simp only [V.fz, Abs.K.fz, normRows_drs, Qs, Nat.reduceBEq]
  refine callQ_s (d13 l n) ?_ (ha := by simp [lendL, V.norm, lst, normRows_drs])
  simp only [b2, V.fz, Abs.K.fz, normRows_drs, Qs, if_true, Nat.reduceBEq]
  refine callQ_l g15 ?_ (ha := by simp [lendL, V.norm, lst, normRows_drs])
  simp only [V.fz, Abs.K.fz, normRows_drs, Qs, Nat.reduceBEq]
  refine callQ_l (d16 l) ?_ (ha := by simp [lendL, V.norm, lst, normRows_drs])
  simp only [V.fz, Abs.K.fz, normRows_kis, Qs, Nat.reduceBEq]
  refine callQ_s (e14 (kitesG l) (kitesG l)) ?_ (ha := by simp [lendL, V.norm, lst, normRows_kis])
  simp only [b4, V.fz, Abs.K.fz, normRows_drs, normRows_ints, Qs, if_true, Nat.reduceAdd, Nat.reduceBEq]
  refine callQ_s (e17 l k) ?_ (ha := by simp [lendL, V.norm, lst, normRows_drs, encKi])
  simp only [V.fz, Abs.K.fz, normRows_drs, normRows_ints, Qs, if_true, Nat.reduceAdd, Nat.reduceBEq]
  refine callQ_s (e18 l k) ?_ (ha := by simp [lendL, V.norm, lst, normRows_drs, encKi])
  simp only [b3, V.fz, Abs.K.fz, normRows_drs, Qs, q_AOp_dst_eq_11, q_exLQ_eq_13, q_vBinB_eq_1, if_true, if_false, Nat.reduceBEq]
  refine callQ_l (e20 l) ?_ (ha := by simp [lendL, V.norm, lst, normRows_drs])
  simp only [V.fz, Abs.K.fz, normRows_drs, Qs, Nat.reduceBEq]
  refine callQ_l (e21 l) ?_ (ha := by simp [lendL, V.norm, lst, normRows_drs])
  simp only [V.fz, Abs.K.fz, normRows_ints, Qs, Nat.reduceBEq]
  refine callQ_s (e19 (ringG l) (ringG l)) ?_ (ha := by simp [lendL, V.norm, lst])
  simp only [decide_true, V.fz, Abs.K.fz, Qs, if_true, List.nodup_nil, Nat.reduceBEq]
  exact hS
end Go.Abs


set_option maxRecDepth 100000
namespace Go.Proofs.Ytefmlddbkmgliaa
open Go.Abs Go.RowKit
theorem spec3 (xs : List V) (h : ArgsOf Try.prog [22, 25, 3] xs) : Go.Abs.Spec Try.prog 3 xs (fun r => r = .bool true) := by
  match xs, h with
  | [a0, a1, a2], ⟨⟨_, _, h0, q0⟩, ⟨_, _, h1, q1⟩, ⟨_, _, h2, q2⟩, _⟩ =>
    obtain ⟨x0, e0⟩ := arg_drs Try.underlying22 Try.underlying40 rfl Try.underlying3 (by kernel_rfl) h0
    obtain ⟨x1, e1⟩ := arg_ki Try.underlying25 rfl Try.underlying23 Try.underlying3 (by kernel_rfl) h1
    obtain ⟨x2, e2, _⟩ := arg_int Try.underlying3 h2
    rw [q0, q1, q2, e0, e1, e2]
    exact l3 x0 x1 x2
theorem lifted3 (os : Os) (started : os.Started) (H : Type) (enc : TypeId × Value → H) :
    ReturnsInHanded {} Try.checked os 3 .any (Rows.kiteTellsSpec.pre6 enc Try.prog Try.f3 Rows.kiteTellsRow.domain false) (Rows.kiteTellsSpec.post enc Try.prog Try.f3 Rows.kiteTellsRow.apart Rows.kiteTellsRow.fresh Rows.kiteTellsRow.handsOn Rows.kiteTellsRow.again) := by
  refine law_lifted (C := Try.checked) (T := plainTs) (tb := 4) own started (by kernel_rfl) Try.func3 ?_ plainTs_ok plainTs_lt ?_ kids full rfl ?_ ?_ Try.underlying4 (fun W => ⟨(fun _ _ h => nomatch h), (fun _ _ h => nomatch h)⟩) ?_
  · exact ChangeSpec.witness6 (enc := enc) (C := Try.checked) false ⟨#[], #[.slice none 0 0, .agg #[.slice none 0 0, .slice none 0 0, .int .i64 0], .int .i64 0], []⟩ 8 (by kernel_rfl) (by kernel_rfl) (by kernel_rfl) (by kernel_rfl)
  · rw [Try.params3]; decide
  · intro ds hds
    rw [Try.params3] at hds
    match ds, hds with
    | [a0, a1, a2], _ => rfl
  · kernel_rfl
  · intro xs hxs
    rw [Try.params3] at hxs
    exact spec3 xs hxs
theorem KiteTells_holds : Rows.KiteTellsSaid :=
  OpenClaim.holds_of_wide 3 Try.f3 rfl rfl rfl rfl rfl rfl rfl ⟨rfl, rfl, rfl, rfl, rfl⟩ rfl rfl rfl rfl rfl (by kernel_rfl) Try.func3 (by kernel_rfl)
    (of_decide_eq_true (by kernel_rfl)) (by unfold Func.isWrapper; first | (rw [if_pos (by decide +kernel)]; kernel_rfl) | (rw [if_neg (by decide +kernel)]; exact ⟨rfl, rfl⟩))
    (fun os started H enc _ => lifted3 os started H enc)
end Go.Proofs.Ytefmlddbkmgliaa

