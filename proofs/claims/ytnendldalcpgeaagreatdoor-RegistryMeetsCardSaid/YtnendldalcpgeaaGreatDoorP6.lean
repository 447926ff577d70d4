/- A part of the proof; the last text states what is proved. -/
import Derived.Test.YtnendldalcpgeaaGreatDoorP5
import Derived.Maps.Own
import Derived.Maps.OwnOps
import Derived.Maps.Views
import Derived.Maps.AppendAt
import Derived.Sort.OwnSorted
import Derived.Lib.OwnBridge
import Derived.Lib.RowBridge
import Derived.Shelf.Slices.Turned
import Derived.Test.YtnendldalcpgeaaGreatDoorRows
import Derived.Test.YtnendldalcpgeaaGreatDoorCards
import Derived.Test.YtnendldalcpgeaaGreatDoorTie
import Derived.ProofKit
import Derived.DataShut
import Derived.LaidMore
import Derived.Lib.LaidTab
import Derived.Lib.LaidU8
import Derived.OpenShut
import Derived.SevenTiedAt
import Derived.Deep.DeepHandedRow
import Derived.Deep.DeepWitnessRowRef
import Derived.Shelf.Vars
set_option linter.unusedVariables false
set_option linter.unusedSimpArgs false
set_option maxRecDepth 100000
set_option maxHeartbeats 4000000
namespace Go.Abs
open Go.Proofs Go.Wire Go.RowKit Go.Jr Go.Rg
theorem insU_le : ∀ (l : List Txt) (s : Txt), (insU l s).length ≤ l.length + 1
  | [], s => by simp [insU]
  | a :: l, s => by
    rw [insU]
    split
    · simp
    · split
      · simp
      · have := insU_le l s
        simp only [List.length_cons]; omega
theorem insU_drop {l : List Txt} {i : Nat} (s : Txt) (h : i < l.length) : insU (l.drop i) s = if s < l[i] then s :: l.drop i else if s = l[i] then l.drop i else l[i] :: insU (l.drop (i + 1)) s := by
  rw [List.drop_eq_getElem_cons h, insU]
theorem v51 (l : List Txt) (s : Txt) (hsz : l.length ≤ 1000000) : Spec Tryz.prog 51 [lst 1 (strs l), .str s] (fun r => r = .k (.newl 9 1 none (strs (insU l s)))) := by
  refine Spec.of_awlS hf51 okf51 (by simp) fun S hS => ?_
  simp only [Qs, bne_iff_ne, ne_eq, Nat.reduceAdd, Nat.reduceEqDiff, Nat.reduceBEq, uu f51.eq_1, uu f51b27.eq_1, vv f51r28.eq_1, uu f51b29.eq_1, uu f51b30.eq_1, vv f51r31.eq_1, uu f51b32.eq_1, vv f51r33.eq_1, uu f51b34.eq_1, vv f51r35.eq_1, uu f51b36.eq_1]
  rw [uf51l26]
  refine awl_loop (fun x : Nat × Bool × List Txt => [(0, lst 1 (strs l)), (1, .str s), (5, .k (.own 5)), (6, .bool x.2.1), (7, .int .i64 x.1)]) (fun x => [(5, .arr 9 1 (nlApp (some true) (strs x.2.2)) (strs x.2.2))])
    (fun x => x.1 ≤ l.length ∧ x.2.2.length ≤ x.1 + x.2.1.toNat ∧ (if x.2.1 = true then x.2.2 ++ l.drop x.1 else x.2.2 ++ insU (l.drop x.1) s) = insU l s) (fun x => l.length - x.1) (0, false, []) rfl rfl ⟨Nat.zero_le _, by simp, by simp⟩ ?_
  rintro ⟨i, put, out⟩ ⟨hi, ho, hj⟩
  simp only [] at hi ho hj
  have hpt : put.toNat ≤ 1 := Bool.toNat_le put
  by_cases hlt : i < l.length
  · have c1 : (i : Int) < l.length := by omega
    have c4 : IntKind.i64.wrap ((i : Int) + 1) = (i : Int) + 1 := wrap_in (by omega) (by omega)
    have e2 : l.drop i = l[i] :: l.drop (i + 1) := List.drop_eq_getElem_cons hlt
    have enl : ∀ (o2 : List Txt) (a : Txt), nlApp (some true) (strs (o2 ++ [a])) = some false := fun o2 a => by cases o2 <;> rfl
    cases put with
    | true =>
      rw [if_pos rfl] at hj
      simp only [c1, c4, strs_len, strs_at hlt, strs_snoc, Qs, q_AOp_dst_eq_22, q_V_noRef_eq_5, q_V_scrub_eq_4, if_true, if_false, forall_eq, bne_iff_ne, ne_eq, List.mem_cons, Nat.reduceEqDiff, Nat.reduceLeDiff, Nat.reduceLT, Nat.reduceBEq, List.not_mem_nil, vv f51r8.eq_1, vv f51r9.eq_1, uu f51b16.eq_1, vv f51r17.eq_1, uu f51b18.eq_1, uu f51b19.eq_1, uu f51b20.eq_1, uu f51b21.eq_1, uu f51b22.eq_1, vv f51r23.eq_1, uu f51b24.eq_1, uu f51b25.eq_1]
      refine ⟨by omega, by omega, Next.intro (i + 1, true, out ++ [l[i]]) rfl (by simp only [enl]; rfl) ⟨by show i + 1 ≤ l.length; omega, by simp only [List.length_append, List.length_singleton, Bool.toNat_true, Bool.toNat_false] at ho ⊢; omega, ?_⟩ (by show l.length - (i + 1) < l.length - i; omega)⟩
      simp only [if_true]
      rw [← hj, e2, List.append_assoc]; rfl
    | false =>
      rw [if_neg (by simp), insU_drop s hlt] at hj
      rcases tri s l[i] with h1 | h1 | h1
      · rw [if_pos h1] at hj
        have b1 : Op.bytesLess s l[i] = true := by rw [Go.Proofs.bytesLess_eq]; simpa using h1
        simp only [c1, c4, b1, Bool.true_or, strs_len, strs_at hlt, strs_snoc, Qs, q_AOp_dst_eq_22, q_binStr_eq_4, q_binStr_eq_5, q_K_noRef_eq_8, if_true, if_false, forall_eq, bne_iff_ne, ne_eq, Bool.true_or, List.mem_cons, Nat.reduceEqDiff, Nat.reduceLeDiff, Nat.reduceLT, Nat.reduceBEq, List.not_mem_nil, vv f51r8.eq_1, vv f51r9.eq_1, vv f51r10.eq_1, vv f51r11.eq_1, uu f51b12.eq_1, vv f51r13.eq_1, uu f51b14.eq_1, uu f51b15.eq_1, uu f51b16.eq_1, vv f51r17.eq_1, uu f51b18.eq_1, uu f51b19.eq_1, uu f51b20.eq_1, uu f51b21.eq_1, uu f51b22.eq_1, vv f51r23.eq_1, uu f51b24.eq_1, uu f51b25.eq_1]
        refine ⟨by omega, by omega, by simp only [List.length_append, List.length_singleton]; omega, by simp only [List.length_append, List.length_singleton]; omega, Next.intro (i + 1, true, out ++ [s] ++ [l[i]]) rfl (by simp only [enl]; rfl) ⟨by show i + 1 ≤ l.length; omega, by simp only [List.length_append, List.length_singleton, Bool.toNat_true, Bool.toNat_false] at ho ⊢; omega, ?_⟩ (by show l.length - (i + 1) < l.length - i; omega)⟩
        simp only [if_true]
        rw [← hj, e2, List.append_assoc, List.append_assoc]; rfl
      · have hn : ¬ s < l[i] := by rw [h1]; exact lt_irr _
        rw [if_neg hn, if_pos h1] at hj
        have b1 : Op.bytesLess s l[i] = false := by rw [Go.Proofs.bytesLess_eq]; simpa using hn
        have b2 : (s == l[i]) = true := by simpa using h1
        simp only [c1, c4, b1, b2, Bool.false_or, strs_len, strs_at hlt, strs_snoc, Qs, q_AOp_dst_eq_22, q_binStr_eq_4, q_binStr_eq_5, if_true, if_false, forall_eq, bne_iff_ne, ne_eq, List.mem_cons, Nat.reduceEqDiff, Nat.reduceLeDiff, Nat.reduceLT, Nat.reduceBEq, List.not_mem_nil, vv f51r8.eq_1, vv f51r9.eq_1, vv f51r10.eq_1, vv f51r11.eq_1, uu f51b12.eq_1, vv f51r13.eq_1, uu f51b14.eq_1, uu f51b15.eq_1, uu f51b16.eq_1, vv f51r17.eq_1, uu f51b18.eq_1, uu f51b19.eq_1, uu f51b20.eq_1, uu f51b21.eq_1, uu f51b22.eq_1, vv f51r23.eq_1, uu f51b24.eq_1, uu f51b25.eq_1]
        refine ⟨by omega, by omega, Next.intro (i + 1, true, out ++ [l[i]]) rfl (by simp only [enl]; rfl) ⟨by show i + 1 ≤ l.length; omega, by simp only [List.length_append, List.length_singleton, Bool.toNat_true, Bool.toNat_false] at ho ⊢; omega, ?_⟩ (by show l.length - (i + 1) < l.length - i; omega)⟩
        simp only [if_true]
        rw [← hj, e2, List.append_assoc]; rfl
      · have hn : ¬ s < l[i] := fun h => lt_irr _ (lt_tr h h1)
        have hne : ¬ s = l[i] := fun h => lt_irr l[i] (h ▸ h1)
        rw [if_neg hn, if_neg hne] at hj
        have b1 : Op.bytesLess s l[i] = false := by rw [Go.Proofs.bytesLess_eq]; simpa using hn
        have b2 : (s == l[i]) = false := by simpa using hne
        simp only [c1, c4, b1, b2, Bool.false_or, strs_len, strs_at hlt, strs_snoc, Qs, q_AOp_dst_eq_22, q_binStr_eq_5, if_true, if_false, forall_eq, bne_iff_ne, ne_eq, Bool.or_false, List.mem_cons, Nat.reduceEqDiff, Nat.reduceLeDiff, Nat.reduceLT, Nat.reduceBEq, List.not_mem_nil, vv f51r8.eq_1, vv f51r9.eq_1, uu f51b16.eq_1, vv f51r17.eq_1, uu f51b18.eq_1, uu f51b19.eq_1, uu f51b20.eq_1, uu f51b21.eq_1, uu f51b22.eq_1, vv f51r23.eq_1, uu f51b24.eq_1, uu f51b25.eq_1]
        refine ⟨by omega, by omega, Next.intro (i + 1, false, out ++ [l[i]]) rfl (by simp only [enl]; rfl) ⟨by show i + 1 ≤ l.length; omega, by simp only [List.length_append, List.length_singleton, Bool.toNat_true, Bool.toNat_false] at ho ⊢; omega, ?_⟩ (by show l.length - (i + 1) < l.length - i; omega)⟩
        simp only [Bool.false_eq_true, if_false]
        rw [← hj, List.append_assoc]; rfl
  · obtain rfl : i = l.length := by omega
    have c1 : ¬ (l.length : Int) < l.length := by omega
    rw [List.drop_length] at hj
    cases put with
    | true =>
      rw [if_pos rfl, List.append_nil] at hj
      simp only [c1, strs_len, normRows_strs, Qs, if_true, List.nodup_nil, List.nodup_cons, Nat.reduceBEq, List.not_mem_nil, vv f51r1.eq_1, uu f51b2.eq_1, vv f51r3.eq_1, uu f51b4.eq_1, vv f51r5.eq_1, uu f51b6.eq_1, uu f51b7.eq_1, uu f51b22.eq_1, vv f51r23.eq_1, uu f51b24.eq_1, uu f51b25.eq_1]
      rw [hj]; exact hS
    | false =>
      rw [if_neg (by simp)] at hj
      have hj2 : out ++ [s] = insU l s := hj
      simp only [c1, strs_len, strs_snoc, hj2, normRows_strs, Qs, q_C_normRows_eq_2, if_true, if_false, forall_eq, bne_iff_ne, ne_eq, List.mem_cons, List.nodup_nil, List.nodup_cons, Nat.reduceEqDiff, Nat.reduceLeDiff, Nat.reduceLT, Nat.reduceBEq, List.not_mem_nil, vv f51r1.eq_1, uu f51b2.eq_1, vv f51r3.eq_1, uu f51b4.eq_1, vv f51r5.eq_1, uu f51b6.eq_1, uu f51b7.eq_1, uu f51b22.eq_1, vv f51r23.eq_1, uu f51b24.eq_1, uu f51b25.eq_1]
      exact ⟨by omega, by omega, hS⟩
def outV : Bool → List Txt → V
  | false, _ => .k (.c (.list 1 (some true) []))
  | true, l => .k (.c (.list 1 none (strs l)))
theorem outV_norm (b : Bool) {l : List Txt} (h : b = false → l = []) : (outV b l).norm = lst 1 (strs l) := by
  cases b with
  | true => simp [outV, V.norm, norm_list]
  | false => rw [h rfl]; rfl
theorem outV_nrm (b : Bool) {l : List Txt} (h : b = false → l = []) : (outV b l).nrm = lst 1 (strs l) := by
  cases b with
  | true => simp [outV, V.nrm, Abs.K.nrm, norm_list]
  | false => rw [h rfl]; rfl
theorem pairK_le (a : List Txt) : ∀ (r : List (List Txt)) (out : List Txt), (pairK a r out).length ≤ out.length + a.length * r.length
  | [], out => by simp [pairK]
  | b :: r, out => by
    have h1 := pairK_le a r (insAll out (a.filter fun s => decide (s ∈ b)))
    have h2 : ∀ (l : List Txt) (acc : List Txt), (insAll acc l).length ≤ acc.length + l.length := by
      intro l
      induction l with
      | nil => intro acc; simp [insAll]
      | cons s l ih =>
        intro acc
        have := ih (insU acc s)
        have := insU_le acc s
        show (insAll (insU acc s) l).length ≤ _
        simp only [List.length_cons]; omega
    have h3 := h2 (a.filter fun s => decide (s ∈ b)) out
    have h4 := List.length_filter_le (fun s => decide (s ∈ b)) a
    rw [pairK, List.length_cons, Nat.mul_add]
    omega
theorem v22 (logs : List (List Txt)) : Spec Tryz.prog 22 [lst 1 (lls logs)] (fun r => r = lst 1 (strs (if rightL logs = true then agreeF logs else []))) := by
  refine Spec.of_awlP hf22 okf22 (by simp) fun S hS => ?_
  simp only [normRows_lls, Qs, if_true, if_false, bne_iff_ne, ne_eq, Nat.reduceEqDiff, Nat.reduceBEq, z_O_arr, q_awl_eq_14, uu f22.eq_1, vv f22r44.eq_1, uu f22b45.eq_1, uu f22b46.eq_1, vv f22r47.eq_1, uu f22b48.eq_1, vv f22r49.eq_1, uu f22b50.eq_1]
  refine call_s (v29 logs) ?_ (ha := by simp [lendL, V.norm, lst, normRows_lls])
  cases hr : rightL logs with
  | false =>
    rw [hr, if_neg (by simp)] at hS
    simp only [Qs, if_true, Bool.true_or, BEq.rfl, List.nodup_nil, List.nodup_cons, Nat.reduceBEq, List.not_mem_nil, vv f22r41.eq_1, uu f22b42.eq_1, uu f22b43.eq_1]
    exact hS _ rfl
  | true =>
    have h3 : (logs.length : Int) ≤ 3 := by
      unfold rightL at hr
      simp only [Bool.and_eq_true, decide_eq_true_eq] at hr
      exact hr.1
    have h5 : ∀ l ∈ logs, l.length ≤ 500 := by
      unfold rightL at hr
      simp only [Bool.and_eq_true, Bool.not_eq_true', List.any_eq_false] at hr
      intro l hl
      have := hr.2 l hl
      simp [longB] at this
      omega
    rw [hr, if_pos rfl] at hS
    simp only [Qs, uu f22b37.eq_1, vv f22r38.eq_1, uu f22b39.eq_1, uu f22b40.eq_1, uu f22b43.eq_1]
    rw [uf22l36]
    refine awl_loop (fun x : Nat × Bool × List Txt => [(0, lst 1 (lls logs)), (3, outV x.2.1 x.2.2), (4, .int .i64 x.1)]) (fun _ => [])
      (fun x => x.1 ≤ logs.length ∧ (x.2.1 = false → x.2.2 = []) ∧ x.2.2.length ≤ 1500 * x.1 ∧ pairI (logs.drop x.1) x.2.2 = agreeF logs) (fun x => logs.length - x.1) (0, false, []) rfl rfl ⟨Nat.zero_le _, fun _ => rfl, by simp, by rw [← pairI_eq]; rfl⟩ ?_
    rintro ⟨i, b, out⟩ ⟨hi, hb, ho, hj⟩
    simp only [] at hi hb ho hj
    by_cases hlt : i < logs.length
    · have c1 : (i : Int) < logs.length := by omega
      have c4 : IntKind.i64.wrap ((i : Int) + 1) = ((i + 1 : Nat) : Int) := by rw [wrap_in (by omega) (by omega)]; omega
      have e2 : logs.drop i = logs[i] :: logs.drop (i + 1) := List.drop_eq_getElem_cons hlt
      have hli := h5 _ (List.getElem_mem hlt)
      rw [e2, pairI] at hj
      simp only [c1, c4, lls_len, Qs, if_true, Nat.reduceBEq, vv f22r3.eq_1, uu f22b27.eq_1, vv f22r28.eq_1, uu f22b29.eq_1, uu f22b30.eq_1, uu f22b31.eq_1, uu f22b32.eq_1, vv f22r33.eq_1, uu f22b34.eq_1, uu f22b35.eq_1]
      rw [uf22l26]
      refine awl_loop (fun x : Nat × Bool × List Txt => [(0, lst 1 (lls logs)), (3, outV x.2.1 x.2.2), (4, .int .i64 i), (5, .int .i64 x.1)]) (fun _ => [])
        (fun x => i + 1 ≤ x.1 ∧ x.1 ≤ logs.length ∧ (x.2.1 = false → x.2.2 = []) ∧ x.2.2.length ≤ 1500 * i + 500 * (x.1 - (i + 1)) ∧ pairI (logs.drop (i + 1)) (pairK logs[i] (logs.drop x.1) x.2.2) = agreeF logs) (fun x => logs.length - x.1) (i + 1, b, out) rfl rfl ⟨Nat.le_refl _, by show i + 1 ≤ logs.length; omega, hb, by simp only []; omega, hj⟩ ?_
      rintro ⟨k, b2, out2⟩ ⟨hk0, hk, hb2, ho2, hj2⟩
      simp only [] at hk0 hk hb2 ho2 hj2
      by_cases hlt2 : k < logs.length
      · have d1 : (k : Int) < logs.length := by omega
        have d4 : IntKind.i64.wrap ((k : Int) + 1) = (k : Int) + 1 := wrap_in (by omega) (by omega)
        have e3 : logs.drop k = logs[k] :: logs.drop (k + 1) := List.drop_eq_getElem_cons hlt2
        rw [e3, pairK] at hj2
        simp only [d1, lls_len, Qs, if_true, Nat.reduceBEq, vv f22r4.eq_1, uu f22b17.eq_1, vv f22r18.eq_1, uu f22b19.eq_1, uu f22b20.eq_1, uu f22b21.eq_1, uu f22b22.eq_1, vv f22r23.eq_1, uu f22b24.eq_1, uu f22b25.eq_1]
        rw [uf22l16]
        refine awl_loop (fun x : Nat × Bool × List Txt => [(0, lst 1 (lls logs)), (3, outV x.2.1 x.2.2), (4, .int .i64 i), (5, .int .i64 k), (6, .int .i64 x.1)]) (fun _ => [])
          (fun x => x.1 ≤ logs[i].length ∧ (x.2.1 = false → x.2.2 = []) ∧ x.2.2.length ≤ 1500 * i + 500 * (k - (i + 1)) + x.1 ∧ pairI (logs.drop (i + 1)) (pairK logs[i] (logs.drop (k + 1)) (insAll x.2.2 ((logs[i].drop x.1).filter fun s => decide (s ∈ logs[k])))) = agreeF logs) (fun x => logs[i].length - x.1) (0, b2, out2) rfl rfl ⟨Nat.zero_le _, hb2, by simp only []; omega, hj2⟩ ?_
        rintro ⟨n, b3, out3⟩ ⟨hn, hb3, ho3, hj3⟩
        simp only [] at hn hb3 ho3 hj3
        by_cases hlt3 : n < logs[i].length
        · have f1 : (n : Int) < logs[i].length := by omega
          have f4 : IntKind.i64.wrap ((n : Int) + 1) = (n : Int) + 1 := wrap_in (by omega) (by omega)
          have e4 : logs[i].drop n = logs[i][n] :: logs[i].drop (n + 1) := List.drop_eq_getElem_cons hlt3
          rw [e4, List.filter_cons] at hj3
          simp only [c1, d1, f1, f4, lls_len, lls_at hlt, lls_at hlt2, strs_len, strs_at hlt3, normRows_strs, Qs, if_true, Nat.reduceBEq, vv f22r5.eq_1, vv f22r8.eq_1, uu f22b9.eq_1, uu f22b10.eq_1, uu f22b11.eq_1, uu f22b12.eq_1, vv f22r13.eq_1, uu f22b14.eq_1, uu f22b15.eq_1]
          refine callQ_s (v27 logs[k] logs[i][n]) ?_
          by_cases hm : logs[i][n] ∈ logs[k]
          · have hd : decide (logs[i][n] ∈ logs[k]) = true := decide_eq_true hm
            rw [if_pos hd] at hj3
            have hle := insU_le out3 logs[i][n]
            have hbig : out3.length ≤ 1000000 := by omega
            simp only [V.fz, Abs.K.fz, hd, c1, d1, f1, f4, lls_len, lls_at hlt, lls_at hlt2, strs_len, strs_at hlt3, normRows_strs, Qs, Nat.reduceBEq, vv f22r6.eq_1, uu f22b7.eq_1]
            refine call_l (v51 out3 logs[i][n] hbig) ?_ (hp := by cases b3 <;> rfl) (ha := by
              have e : lendL [] (outV b3 out3) = outV b3 out3 := by cases b3 <;> rfl
              show [(lendL [] (outV b3 out3)).norm, V.str logs[i][n]] = _
              rw [e, outV_norm b3 hb3]) (ht := by cases b3 <;> rfl) (hf := by cases b3 <;> rfl)
            simp only [f4, Qs, if_true, Nat.reduceBEq, z_K_pel, q_awl_eq_14]
            refine Next.intro (n + 1, true, insU out3 logs[i][n]) rfl rfl ⟨by show n + 1 ≤ logs[i].length; omega, fun e => absurd e (by simp), by show (insU out3 logs[i][n]).length ≤ _; omega, hj3⟩ (by show logs[i].length - (n + 1) < logs[i].length - n; omega)
          · have hd : decide (logs[i][n] ∈ logs[k]) = false := decide_eq_false hm
            rw [if_neg (by simp [hd])] at hj3
            simp only [V.fz, Abs.K.fz, hd, f4, Qs, if_true, Nat.reduceBEq, q_awl_eq_14, z_frzT0, z_frzO0, vv f22r6.eq_1, uu f22b7.eq_1]
            exact Next.intro (n + 1, b3, out3) rfl rfl ⟨by show n + 1 ≤ logs[i].length; omega, hb3, by simp only []; omega, hj3⟩ (by show logs[i].length - (n + 1) < logs[i].length - n; omega)
        · have f1 : ¬ (n : Int) < logs[i].length := by omega
          simp only [c1, d1, d4, f1, lls_len, lls_at hlt, strs_len, normRows_strs, Qs, if_true, if_false, reduceCtorEq, Nat.reduceEqDiff, Nat.reduceBEq, uu f22b12.eq_1, vv f22r13.eq_1, uu f22b14.eq_1, uu f22b15.eq_1]
          refine Next.intro (k + 1, b3, out3) rfl rfl ⟨by show i + 1 ≤ k + 1; omega, by show k + 1 ≤ logs.length; omega, hb3, by simp only []; omega, ?_⟩ (by show logs.length - (k + 1) < logs.length - k; omega)
          rw [List.drop_eq_nil_of_le (show logs[i].length ≤ n by omega), List.filter_nil] at hj3
          exact hj3
      · have d1 : ¬ (k : Int) < logs.length := by omega
        simp only [d1, c4, lls_len, Qs, if_true, if_false, reduceCtorEq, Nat.reduceBEq, uu f22b22.eq_1, vv f22r23.eq_1, uu f22b24.eq_1, uu f22b25.eq_1]
        refine Next.intro (i + 1, b2, out2) rfl rfl ⟨by show i + 1 ≤ logs.length; omega, hb2, by simp only []; omega, ?_⟩ (by show logs.length - (i + 1) < logs.length - i; omega)
        rw [List.drop_eq_nil_of_le (show logs.length ≤ k by omega), pairK] at hj2
        exact hj2
    · have c1 : ¬ (i : Int) < logs.length := by omega
      rw [List.drop_eq_nil_of_le (by omega), pairI] at hj
      simp only [c1, lls_len, Qs, if_true, Nat.reduceBEq, vv f22r1.eq_1, uu f22b2.eq_1, uu f22b32.eq_1, vv f22r33.eq_1, uu f22b34.eq_1, uu f22b35.eq_1]
      rw [outV_nrm b hb, hj]
      exact ⟨List.nodup_nil, hS _ (by simp [V.fz, Abs.K.fz, V.nrm, Abs.K.nrm, normRows_strs, V.toNew, K.toNew, lst])⟩
end Go.Abs


set_option maxRecDepth 100000
set_option maxHeartbeats 4000000
namespace Go.Abs
open Go.Proofs Go.Wire Go.RowKit Go.Jr Go.Rg
def agreeX (logs : List (List Txt)) : List Txt := if rightL logs = true then agreeF logs else []
def lackX (logs : List (List Txt)) (i : Nat) : List Txt := (agreeX logs).filter fun s => decide (s ∉ logs.getD i [])
def lacksX (logs : List (List Txt)) (i : Int) : List Txt := if i < 0 ∨ i ≥ logs.length then [] else lackX logs i.toNat
theorem agree_le (logs : List (List Txt)) : (agreeX logs).length ≤ 4000000 := by
  unfold agreeX
  by_cases h : rightL logs = true
  · rw [if_pos h]
    have h3 : (logs.length : Int) ≤ 3 := by
      unfold rightL at h
      simp only [Bool.and_eq_true, decide_eq_true_eq] at h
      exact h.1
    have h5 : ∀ l ∈ logs, l.length ≤ 500 := by
      unfold rightL at h
      simp only [Bool.and_eq_true, Bool.not_eq_true', List.any_eq_false] at h
      intro l hl
      have := h.2 l hl
      simp [longB] at this
      omega
    rw [← pairI_eq]
    have key : ∀ (r : List (List Txt)) (out : List Txt), (∀ l ∈ r, l.length ≤ 500) → (pairI r out).length ≤ out.length + 500 * (r.length * r.length) := by
      intro r
      induction r with
      | nil => intro out _; simp [pairI]
      | cons a r ih =>
        intro out hr
        have h1 := ih (pairK a r out) fun l hl => hr l (List.mem_cons_of_mem _ hl)
        have h2 := pairK_le a r out
        have h4 := hr a List.mem_cons_self
        have h6 : a.length * r.length ≤ 500 * r.length := Nat.mul_le_mul_right _ h4
        rw [pairI, List.length_cons]
        have h7 : (r.length + 1) * (r.length + 1) = r.length * r.length + 2 * r.length + 1 := by rw [Nat.add_mul, Nat.mul_add]; omega
        rw [h7]
        omega
    have := key logs [] h5
    have h8 : logs.length * logs.length ≤ 3 * 3 := Nat.mul_le_mul (by omega) (by omega)
    simp only [List.length_nil] at this
    omega
  · rw [if_neg h]; simp
theorem v24 (logs : List (List Txt)) (i : Int) : Spec Tryz.prog 24 [lst 1 (lls logs), .int .i64 i] (fun r => r = lst 1 (strs (lacksX logs i))) := by
  refine Spec.of_awlP hf24 okf24 (by simp) fun S hS => ?_
  unfold lacksX at hS
  by_cases h1 : i < 0
  · rw [if_pos (.inl h1)] at hS
    simp only [h1, Qs, q_V_noRef_eq_5, if_true, Bool.true_or, BEq.rfl, List.nodup_nil, List.nodup_cons, Nat.reduceAdd, Nat.reduceBEq, List.not_mem_nil, uu f24.eq_1, vv f24r23.eq_1, uu f24b24.eq_1, uu f24b25.eq_1, vv f24r26.eq_1, uu f24b27.eq_1, uu f24b28.eq_1, vv f24r29.eq_1, uu f24b30.eq_1]
    exact hS _ rfl
  · by_cases h2 : i ≥ logs.length
    · rw [if_pos (.inr h2)] at hS
      simp only [h1, h2, lls_len, Qs, if_true, if_false, Bool.true_or, BEq.rfl, List.nodup_nil, List.nodup_cons, Nat.reduceAdd, Nat.reduceBEq, List.not_mem_nil, uu f24.eq_1, vv f24r23.eq_1, uu f24b24.eq_1, uu f24b25.eq_1, vv f24r26.eq_1, uu f24b27.eq_1, uu f24b28.eq_1, vv f24r29.eq_1, uu f24b30.eq_1]
      exact hS _ rfl
    · rw [if_neg (fun h => h.elim h1 h2)] at hS
      obtain ⟨q, rfl⟩ : ∃ q : Nat, i = q := ⟨i.toNat, by omega⟩
      rw [Int.toNat_natCast] at hS
      have hq : q < logs.length := by omega
      have hq2 : (q : Int) < logs.length := by omega
      have hgd : logs.getD q [] = logs[q] := by simp [hq]
      unfold lackX at hS
      rw [hgd] at hS
      have c22 := v22 logs
      have hle := agree_le logs
      rw [show (if rightL logs = true then agreeF logs else []) = agreeX logs from rfl] at c22
      generalize agreeX logs = L at hS c22 hle
      simp only [h1, h2, hq2, lls_len, lls_at hq, normRows_lls, Qs, if_true, if_false, Nat.reduceAdd, Nat.reduceBEq, uu f24.eq_1, vv f24r21.eq_1, uu f24b22.eq_1, uu f24b25.eq_1, vv f24r26.eq_1, uu f24b27.eq_1, uu f24b28.eq_1, vv f24r29.eq_1, uu f24b30.eq_1]
      refine call_r c22 ?_ (ha := by simp [lendL, V.norm, lst, normRows_lls])
      simp only [h1, h2, hq2, lls_len, lls_at hq, normRows_lls, Qs, q_regN_eq_1, bne_iff_ne, ne_eq, Nat.reduceEqDiff, Nat.reduceBEq, uu f24b15.eq_1, vv f24r16.eq_1, uu f24b17.eq_1, uu f24b18.eq_1, vv f24r19.eq_1, uu f24b20.eq_1]
      rw [uf24l14]
      refine awl_loop (fun j : Nat => [(0, lst 1 (lls logs)), (1, .int .i64 q), (5, lst 1 (strs L)), (6, .k (.own 6)), (7, .int .i64 j)]) (fun j => [(6, .arr 9 1 (nlApp (some true) (strs ((L.take j).filter fun s => decide (s ∉ logs[q])))) (strs ((L.take j).filter fun s => decide (s ∉ logs[q]))))])
        (fun j => j ≤ L.length) (fun j => L.length - j) 0 rfl rfl (Nat.zero_le _) ?_
      intro j hj
      have hfl := List.length_filter_le (fun s => decide (s ∉ logs[q])) (L.take j)
      rw [List.length_take] at hfl
      by_cases hlt : j < L.length
      · have c1 : (j : Int) < L.length := by omega
        have c4 : IntKind.i64.wrap ((j : Int) + 1) = (j : Int) + 1 := wrap_in (by omega) (by omega)
        have e2 : L.take (j + 1) = L.take j ++ [L[j]] := by rw [List.take_add_one, List.getElem?_eq_getElem hlt]; rfl
        simp only [c1, c4, hq2, lls_len, lls_at hq, strs_len, strs_at hlt, normRows_strs, Qs, if_true, Nat.reduceBEq, vv f24r3.eq_1, vv f24r6.eq_1, uu f24b7.eq_1, uu f24b8.eq_1, uu f24b9.eq_1, uu f24b10.eq_1, vv f24r11.eq_1, uu f24b12.eq_1, uu f24b13.eq_1]
        refine callQ_s (v27 logs[q] L[j]) ?_
        by_cases hm : L[j] ∈ logs[q]
        · have hd : decide (L[j] ∈ logs[q]) = true := decide_eq_true hm
          have hd2 : decide (L[j] ∉ logs[q]) = false := decide_eq_false (fun h => h hm)
          have e3 : (L.take (j + 1)).filter (fun s => decide (s ∉ logs[q])) = (L.take j).filter (fun s => decide (s ∉ logs[q])) := by rw [e2, List.filter_append]; simp [hm]
          simp only [V.fz, Abs.K.fz, hd, c1, c4, hq2, lls_len, lls_at hq, strs_len, strs_at hlt, normRows_strs, Qs, q_exLQ_eq_16, if_true, Nat.reduceBEq, vv f24r4.eq_1, uu f24b5.eq_1]
          exact Next.intro (j + 1) rfl (by rw [e3]; rfl) (by omega) (by omega)
        · have hd : decide (L[j] ∈ logs[q]) = false := decide_eq_false hm
          have e3 : (L.take (j + 1)).filter (fun s => decide (s ∉ logs[q])) = (L.take j).filter (fun s => decide (s ∉ logs[q])) ++ [L[j]] := by rw [e2, List.filter_append]; simp [hm]
          have enl : ∀ (o2 : List Txt) (a : Txt), nlApp (some true) (strs (o2 ++ [a])) = some false := fun o2 a => by cases o2 <;> rfl
          simp only [V.fz, Abs.K.fz, hd, c1, c4, hq2, lls_len, lls_at hq, strs_len, strs_at hlt, strs_snoc, normRows_strs, Qs, q_exLQ_eq_16, if_true, if_false, forall_eq, bne_iff_ne, ne_eq, List.mem_cons, Nat.reduceEqDiff, Nat.reduceLeDiff, Nat.reduceLT, Nat.reduceBEq, List.not_mem_nil, vv f24r4.eq_1, uu f24b5.eq_1]
          exact ⟨by omega, by omega, Next.intro (j + 1) rfl (by rw [e3, enl]; rfl) (by omega) (by omega)⟩
      · have c1 : ¬ (j : Int) < L.length := by omega
        rw [List.take_of_length_le (by omega)]
        simp only [c1, strs_len, normRows_strs, Qs, if_true, List.nodup_nil, List.nodup_cons, Nat.reduceBEq, List.not_mem_nil, vv f24r1.eq_1, uu f24b2.eq_1, uu f24b10.eq_1, vv f24r11.eq_1, uu f24b12.eq_1, uu f24b13.eq_1]
        exact hS _ (by simp [V.fz, Abs.K.fz, V.nrm, Abs.K.nrm, norm_list, normRows_strs])
end Go.Abs


set_option maxRecDepth 100000
namespace Go.Proofs
open Go.Shelf Go.RowKit Go.Lib Go.Sort Go.Rg Go.Wire
abbrev srt (l : List Txt) : List Txt := l.mergeSort fun x y => decide (x ≤ y)
theorem sort49 (B : Nat) (v : Value) (ss : List Txt) (w : World) (h : w.ownsRow B 9 1 v ss.length (ss.map encStr)) (hl : ss.length < 4611686018427387904) :
    Calls Tryz.prog 49 #[v] w fun e w' => e = .returned (.tuple #[]) ∧ w'.ownsRow B 9 1 v ss.length ((srt ss).map encStr) ∧ w.grownBy w' v.ownBlock := by
  have hls : (srt ss).length = ss.length := List.length_mergeSort ss
  rcases h.2 with ⟨hv, h0⟩ | ⟨g, cap, cur, hv, hbase, hb, h1, h2, h3, h4⟩
  · subst hv
    have : ss = [] := List.eq_nil_of_length_eq_zero h0
    subst this
    refine (Any.slices_Sort_string_none Tryz.laysSort none 0 w).mono ?_
    rintro e w' ⟨rfl, rfl⟩
    have e0 : srt [] = [] := by simp [srt]
    rw [e0]
    exact ⟨rfl, h, World.grownBy.refl _ _⟩
  · subst hv
    refine (Any.slices_Sort_string Tryz.laysSort g 0 cap ss w (holds_of_block hb (by simpa using h4)) (Array.getElem?_eq_some_iff.1 hb).1 hl).mono ?_
    rintro e w' ⟨rfl, n, os, rfl⟩
    exact ⟨rfl, ownsRow_sorted (ts := srt ss) hls hbase hb h1 h2 h3, grownBy_sorted _⟩
theorem compact50 (B : Nat) (v : Value) (ss : List Txt) (w : World) (h : w.ownsRow B 9 1 v ss.length (ss.map encStr)) :
    Calls Tryz.prog 50 #[v] w fun e w' => ∃ p c, e = .returned (.slice p (compact ss).length c) ∧ (Value.slice p (compact ss).length c).ownBlock = v.ownBlock ∧ w'.ownsRow B 9 1 (.slice p (compact ss).length c) (compact ss).length ((compact ss).map encStr) ∧ w.grownBy w' v.ownBlock := by
  have hle := compact_length_le ss
  rcases h.2 with ⟨hv, h0⟩ | ⟨g, cap, cur, hv, hbase, hb, h1, h2, h3, h4⟩
  · subst hv
    have : ss = [] := List.eq_nil_of_length_eq_zero h0
    subst this
    refine (Any.slices_Compact_string_empty Tryz.laysCompact none 0 w).mono ?_
    rintro e w' ⟨rfl, rfl⟩
    exact ⟨none, 0, rfl, rfl, h, World.grownBy.refl _ _⟩
  · subst hv
    have hm : ss.length ≤ maxLen := Nat.le_trans h1 h2
    refine (Any.slices_Compact_string Tryz.laysCompact g 0 cap ss w (holds_of_block hb (by simpa using h4)) (by simp only [maxLen] at hm; omega) h1).mono ?_
    rintro e w' ⟨rfl, q, rfl⟩
    have hc := ownsRow_putRow (q := q) (k := (compact ss).length) (ys := compact ss ++ List.replicate (ss.length - (compact ss).length) []) h (by simp; omega) hle
    rw [List.take_left] at hc
    have hg := grownBy_sorted (w := w) (g := g) (n := q) (os := #[]) (compact ss ++ List.replicate (ss.length - (compact ss).length) []).toArray
    rw [grow_empty] at hg
    exact ⟨_, cap, rfl, rfl, hc, hg⟩
theorem clone37 (l : List Txt) (hl : l.length ≤ 8796093022208) (v : Value) (w : World) (Z : Go.Abs.Bk → Prop) (hv : Go.Abs.PRep w Z (Go.Abs.lstC 1 (Go.Abs.strs l)) v) :
    Calls Tryz.prog 37 #[v] w fun e w' => ∃ v', e = .returned v' ∧ w'.ownsRow w.heap.size 9 1 v' l.length (l.map encStr) ∧ Below w.heap.size w w' := by
  obtain ⟨p, k, rfl, q, m⟩ := (Go.Abs.plain_strs l).slice hv
  by_cases h0 : l = []
  · subst h0
    cases p with
    | none =>
      refine (Any.slices_Clone_string_nil Tryz.laysClone 0 k w).mono ?_
      rintro e w' ⟨rfl, rfl⟩
      exact ⟨_, rfl, ⟨rfl, .inl ⟨rfl, rfl⟩⟩, Below.refl _ _⟩
    | some a =>
      refine (Any.slices_Clone_string_zero Tryz.laysClone a k w).mono ?_
      rintro e w' ⟨v', rfl, ho, _, hb⟩
      exact ⟨_, rfl, ho, hb⟩
  · have hpos : 0 < (Go.Abs.strs l).length := by rw [Go.Abs.strs_len]; exact List.length_pos_iff.2 h0
    obtain ⟨b, o, rfl, g⟩ := q hpos
    refine (Any.slices_Clone_string Tryz.laysClone b o (Go.Abs.strs l).length k (l.map fun s => (⟨s.toArray⟩ : ByteArray)) w (by rw [Go.Abs.strs_len, List.length_map]; exact Nat.le_refl _) (by rw [Go.Abs.strs_len]; omega) ?_).mono ?_
    · intro j hj
      refine g j _ ?_
      rw [Go.Abs.cells_strs, List.getElem?_map, List.getD_eq_getElem?_getD, List.getElem?_eq_getElem hj]; rfl
    · rintro e w' ⟨v', rfl, ho, _, hb⟩
      rw [List.take_of_length_le (by rw [Go.Abs.strs_len, List.length_map]; exact Nat.le_refl _), Go.Abs.strs_len, List.map_map] at ho
      exact ⟨_, rfl, ho, hb⟩
theorem cmp_mem {α : Type} [Inhabited α] [DecidableEq α] (zs : List α) (x : α) : x ∈ compact zs ↔ x ∈ zs := by
  unfold compact compactUpTo
  constructor
  · intro h
    obtain ⟨i, hi, rfl⟩ := List.mem_map.1 h
    have hi' : i < zs.length := List.mem_range.1 (List.mem_filter.1 hi).1
    simp [getElem!_pos, hi']
  · intro h
    obtain ⟨i, hi, rfl⟩ := List.getElem_of_mem h
    suffices H : ∀ i (hi : i < zs.length), ∃ j, j < zs.length ∧ keeps zs.toArray j = true ∧ zs.toArray[j]! = zs[i] by
      obtain ⟨j, h1, h2, h3⟩ := H i hi
      exact List.mem_map.2 ⟨j, List.mem_filter.2 ⟨List.mem_range.2 h1, h2⟩, h3⟩
    intro i
    induction i with
    | zero => intro hi; exact ⟨0, hi, by simp [keeps], by simp [getElem!_pos, hi]⟩
    | succ i ih =>
      intro hi
      by_cases he : zs.toArray[i + 1]! = zs.toArray[i]!
      · obtain ⟨j, h1, h2, h3⟩ := ih (by omega)
        refine ⟨j, h1, h2, h3.trans ?_⟩
        rw [getElem!_pos _ _ (by simpa using hi), getElem!_pos _ _ (by simp; omega)] at he
        simpa using he.symm
      · exact ⟨i + 1, hi, decide_eq_true (Or.inr he), by rw [getElem!_pos _ _ (by simpa using hi)]; simp⟩
theorem cmp_nodup {zs : List Txt} (h : zs.Pairwise (fun x y => decide (x ≤ y) = true)) : (compact zs).Nodup := by
  unfold compact compactUpTo List.Nodup
  rw [List.pairwise_map]
  have h1 : ((List.range zs.length).filter (keeps zs.toArray)).Pairwise (fun a b => a < b ∧ b < zs.length ∧ keeps zs.toArray b = true) := by
    have h2 : ((List.range zs.length).filter (keeps zs.toArray)).Pairwise (· < ·) := List.pairwise_lt_range.filter _
    refine h2.imp_of_mem fun {a b} ha hb hab => ⟨hab, List.mem_range.1 (List.mem_filter.1 hb).1, (List.mem_filter.1 hb).2⟩
  refine h1.imp fun {a b} ⟨hab, hb, hk⟩ heq => ?_
  obtain ⟨m, rfl⟩ : ∃ m, b = m + 1 := ⟨b - 1, by omega⟩
  have hk2 : zs.toArray[m + 1]! ≠ zs.toArray[m]! := by simpa [keeps] using hk
  rw [getElem!_pos _ _ (by simpa using hb), getElem!_pos _ _ (by simp; omega)] at hk2
  rw [getElem!_pos _ _ (by simp; omega), getElem!_pos _ _ (by simpa using hb)] at heq
  simp only [List.getElem_toArray] at hk2 heq
  have h3 := List.pairwise_iff_getElem.1 h m (m + 1) (by omega) hb (by omega)
  have h3 : zs[m] ≤ zs[m + 1] := of_decide_eq_true h3
  apply hk2
  have h4 : zs[a] ≤ zs[m] := by
    by_cases e : a = m
    · subst e; exact List.le_refl _
    · exact of_decide_eq_true (List.pairwise_iff_getElem.1 h a m (by omega) (by omega) (by omega))
  rw [heq] at h4
  exact List.le_antisymm h4 h3
end Go.Proofs


set_option maxRecDepth 100000
namespace Go.Proofs
open Go.Shelf Go.RowKit Go.Lib Go.Maps Go.Rg Go.Wire
open Go.ChangeMaps
theorem lawK : Keyed Tryz.prog 9 := string_keyed Tryz.underlying9
theorem zeroI (w : World) : (zeroValue 3).run Tryz.prog w = .ok (.int .i64 0) w := by kernel_rfl
def cntN (S : Nat → List Txt) : Nat → Txt → Nat
  | 0, _ => 0
  | k + 1, s => cntN S k s + if s ∈ S k then 1 else 0
theorem cntN_le (S : Nat → List Txt) (s : Txt) : ∀ k, cntN S k s ≤ k
  | 0 => Nat.le_refl _
  | k + 1 => by
    have := cntN_le S s k
    simp only [cntN]; split <;> omega
def cntP (S : Nat → List Txt) (k : Nat) (pre : List Txt) (s : Txt) : Nat := cntN S k s + if s ∈ pre then 1 else 0
theorem cntP_le (S : Nat → List Txt) (k : Nat) (pre : List Txt) (s : Txt) : cntP S k pre s ≤ k + 1 := by
  have := cntN_le S s k
  unfold cntP; split <;> omega
structure AgC (S : Nat → List Txt) (w : World) (bm k : Nat) (pre : List Txt) (D : DataW Unit) (m : Nat) (out : List Txt) (vo : Value) (wr : World) : Prop where
  own : wr.ownsMap Tryz.prog 9 (plainElem Tryz.prog 3) bm m D
  isM : IsMap D
  at_ : ∀ s : Txt, D.atKey (.string s) (.lit (.int .i64 0)) = .lit (.int .i64 (cntP S k pre s : Nat))
  row : wr.ownsRow (bm + 1) 9 1 vo out.length (out.map encStr)
  nod : out.Nodup
  mem : ∀ s, s ∈ out ↔ 2 ≤ cntP S k pre s
  hm : m ≤ k * 500 + pre.length
  ho : out.length ≤ m
  bel : Below w.heap.size w wr
  hb : w.heap.size ≤ bm
variable {S : Nat → List Txt} {w wr w' : World} {bm k m : Nat} {pre : List Txt} {D : DataW Unit} {out : List Txt} {vo : Value}
theorem AgC.start {w1 : World} (h : Below w.heap.size w w1) : AgC S w w1.heap.size 0 [] (.map []) 0 [] (.slice none 0 0) (w1.alloc (.map #[] 0)) :=
  ⟨World.ownsMap_made _ _ _ _, ⟨[], rfl⟩, fun s => by simp [cntP, cntN]; rfl, ⟨rfl, .inl ⟨rfl, rfl⟩⟩, List.nodup_nil, fun s => by simp [cntP, cntN], by simp, Nat.le_refl _, h.alloc h.size _, h.size⟩
theorem AgC.grown {row : Option Nat} (A : AgC S w bm k pre D m out vo wr) (hg : wr.grownBy w' row) (h1 : row ≠ some bm) (h2 : vo.ownBlock = none ∨ vo.ownBlock ≠ row) (h3 : ∀ j, row = some j → w.heap.size ≤ j) : AgC S w bm k pre D m out vo w' :=
  ⟨A.own.kept hg (fun e => h1 e.symm), A.isM, A.at_, A.row.kept hg h2, A.nod, A.mem, A.hm, A.ho, A.bel.grown hg A.bel.size h3, A.hb⟩
theorem AgC.own_new {w2 : World} {n : Nat} {xs : List Value} {v1 : Value} (A : AgC S w bm k pre D m out vo wr) (h : w2.ownsRow wr.heap.size 9 1 v1 n xs) :
    v1.ownBlock ≠ some bm ∧ (vo.ownBlock = none ∨ vo.ownBlock ≠ v1.ownBlock) ∧ ∀ j, v1.ownBlock = some j → w.heap.size ≤ j := by
  have hl := A.own.lt
  refine ⟨fun e => by have := (h.lt bm e).1; omega, ?_, fun j hj => Nat.le_trans A.bel.size (h.lt j hj).1⟩
  cases ho : vo.ownBlock with
  | none => exact .inl rfl
  | some b => exact .inr fun e => by have h1 := (A.row.lt b ho).2; have h2 := (h.lt b e.symm).1; omega
theorem agree_grown {a b : World} (h : Below a.heap.size a b) : a.grownBy b none := ⟨h.os, h.tape, h.output, h.size, fun k hk _ => h.block k hk⟩
theorem AgC.next {cl : List Txt} (A : AgC S w bm k cl D m out vo wr) (h : ∀ s, s ∈ cl ↔ s ∈ S k) (hl : cl.length ≤ 500) : AgC S w bm (k + 1) [] D m out vo wr := by
  have e : ∀ s, cntP S k cl s = cntP S (k + 1) [] s := fun s => by simp [cntP, cntN, h]
  exact ⟨A.own, A.isM, fun s => by rw [A.at_, e], A.row, A.nod, fun s => by rw [A.mem, e], by have := A.hm; simp; omega, A.ho, A.bel, A.hb⟩
theorem cntP_same {s : Txt} (hs : s ∉ pre) : cntP S k (pre ++ [s]) s = cntP S k pre s + 1 := by simp [cntP, hs]
theorem cntP_other {s x : Txt} (hx : x ≠ s) : cntP S k (pre ++ [s]) x = cntP S k pre x := by simp [cntP, hx]
theorem AgC.row_put (A : AgC S w bm k pre D m out vo wr) (hg : wr.grownBy w' (some bm)) : w'.ownsRow (bm + 1) 9 1 vo out.length (out.map encStr) := by
  refine A.row.kept hg ?_
  cases ho : vo.ownBlock with
  | none => exact .inl rfl
  | some b => exact .inr fun e => by cases e; have := (A.row.lt _ ho).1; omega
theorem AgC.skip {s : Txt} {y : Int} (A : AgC S w bm k pre D m out vo wr) (hs : s ∉ pre) (hy : y = (cntP S k pre s : Nat) + 1) (h2 : y ≠ 2)
    (hm1 : w'.ownsMap Tryz.prog 9 (plainElem Tryz.prog 3) bm (m + 1) (D.put (.string s) (.lit (.int .i64 y)))) (hg : wr.grownBy w' (some bm)) :
    AgC S w bm k (pre ++ [s]) (D.put (.string s) (.lit (.int .i64 y))) (m + 1) out vo w' := by
  refine ⟨hm1, A.isM.put _ _, fun x => ?_, A.row.kept hg ?_, A.nod, fun x => ?_, by have := A.hm; simp; omega, by have := A.ho; omega, A.bel.grown hg A.bel.size (fun j hj => by cases hj; exact A.hb), A.hb⟩
  · by_cases hx : x = s
    · subst hx
      rw [atKey_put_same A.isM (show WideAt.IsKeyLit (.string x) from trivial), cntP_same hs, hy]; rfl
    · rw [atKey_put_other (fun e => hx (by cases e; rfl)), A.at_, cntP_other hx]
  · cases ho : vo.ownBlock with
    | none => exact .inl rfl
    | some b => exact .inr fun e => by cases e; have := (A.row.lt _ ho).1; omega
  · rw [A.mem]
    by_cases hx : x = s
    · subst hx
      rw [cntP_same hs]
      omega
    · rw [cntP_other hx]
theorem AgC.app {s : Txt} {o : Obj} {v' : Value} {w2 : World} (A : AgC S w bm k pre D m out vo wr) (hs : s ∉ pre) (hy : (2 : Int) = (cntP S k pre s : Nat) + 1)
    (hm1 : w'.ownsMap Tryz.prog 9 (plainElem Tryz.prog 3) bm (m + 1) (D.put (.string s) (.lit (.int .i64 2)))) (hg : wr.grownBy w' (some bm))
    (hr : w2.ownsRow (bm + 1) 9 1 v' (out.length + 1) (out.map encStr ++ [encStr s])) (hg2 : (w'.alloc o).grownBy w2 vo.ownBlock) :
    AgC S w bm k (pre ++ [s]) (D.put (.string s) (.lit (.int .i64 2))) (m + 1) (out ++ [s]) v' w2 := by
  have hne : some bm ≠ vo.ownBlock := fun e => by have := (A.row.lt _ e.symm).1; omega
  have hns : s ∉ out := fun h => by have := (A.mem s).1 h; omega
  have hb' : Below w.heap.size w w' := A.bel.grown hg A.bel.size (fun j hj => by cases hj; exact A.hb)
  refine ⟨(hm1.alloc o).kept hg2 hne, A.isM.put _ _, fun x => ?_, by simpa using hr, List.nodup_append.2 ⟨A.nod, by simp, fun a ha b hb => by simp at hb; subst hb; exact fun e => hns (e ▸ ha)⟩, fun x => ?_, by have := A.hm; simp; omega, by have := A.ho; simp; omega,
    (hb'.alloc hb'.size o).grown hg2 (hb'.alloc hb'.size o).size (fun j hj => by have := (A.row.lt _ hj).1; have := A.hb; omega), A.hb⟩
  · by_cases hx : x = s
    · subst hx
      rw [atKey_put_same A.isM (show WideAt.IsKeyLit (.string x) from trivial), cntP_same hs]
      congr 2
    · rw [atKey_put_other (fun e => hx (by cases e; rfl)), A.at_, cntP_other hx]
  · rw [List.mem_append, A.mem]
    by_cases hx : x = s
    · subst hx
      rw [cntP_same hs]
      simp; omega
    · rw [cntP_other hx]; simp [hx]
end Go.Proofs


set_option maxRecDepth 100000
set_option maxHeartbeats 4000000
namespace Go.Proofs
open Go.Shelf Go.RowKit Go.Lib Go.Maps Go.Rg Go.Wire
open Go.ChangeMaps
theorem aside {p : Prop} (h : p) : Aside p := h
theorem or_none (o : Option Nat) : o = none ∨ o ≠ none := by cases o <;> simp
theorem lit_int_inj {a b : Int} (h : (DataW.lit (.int .i64 a) : DataW Unit) = .lit (.int .i64 b)) : a = b := by cases h; rfl
theorem ne_sw {a b : Option Nat} (h : a = none ∨ a ≠ b) : b = none ∨ b ≠ a := by
  rcases h with rfl | h
  · cases b <;> simp
  · exact .inr fun e => h e.symm
theorem agree21 (p0 : Option Addr) (b o n c : Nat) (S : Nat → List Txt) (V : Nat → Value) (w : World) (h3 : n ≤ 3)
    (h48 : Calls Tryz.prog 48 #[.slice p0 n c] w fun e w' => e = .returned (.bool true) ∧ Below w.heap.size w w')
    (I0 : Aside (n ≠ 0 → p0 = some ⟨b, o, none⟩)) (I : Aside ((∀ k, k < n → ∀ w', Below w.heap.size w w' → w'.cell? ⟨b, o + k, none⟩ = some (V k)) ∧
      (∀ k, k < n → ∀ w', Below w.heap.size w w' → Calls Tryz.prog 37 #[V k] w' fun e w2 => ∃ v', e = .returned v' ∧ w2.ownsRow w'.heap.size 9 1 v' (S k).length ((S k).map encStr) ∧ Below w'.heap.size w' w2) ∧
      (∀ k, k < n → (S k).length ≤ 500) ∧ ∀ k, k < n → ∀ s ∈ S k, s.length ≤ maxLen)) :
    Calls Tryz.prog 21 #[.slice p0 n c] w fun e w' => ∃ bm D m out vo w3, AgC S w bm n [] D m out vo w3 ∧ e = .returned vo ∧ w'.ownsRow (bm + 1) 9 1 vo out.length ((srt out).map encStr) ∧ w3.grownBy w' vo.ownBlock := by
  have hmm := @run_makeMap Tryz.prog
  obtain ⟨i0, hi, hz0, hz1, hz2⟩ := info_parts (P := Tryz.prog) (e := 9) (z := .string ⟨#[]⟩) (size := 1) (bytes := 16) (by kernel_rfl)
  go_enter Tryz.func21, Tryz.ntmps21
  go_wp2_with (go_at_call 48; refine h48.mono ?_; rintro e w1 ⟨rfl, hb1⟩)
  clear h48 hmm
  go_loopg [15, 4] n (fun g i vo wr => ∃ k D m out, k ≤ n ∧ g = n - k ∧ i = .int .i64 (k : Nat) ∧ AgC S w w1.heap.size k [] D m out vo wr)
  case atStart => exact ⟨0, _, _, _, Nat.zero_le _, rfl, rfl, AgC.start hb1⟩
  case round =>
    obtain ⟨k, D, m, out, hk, rfl, rfl, A⟩ := hrel
    by_cases hlt : k < n
    · have hlt' : (k : Int) < n := by omega
      obtain rfl := I0.out (by omega)
      have hcell := I.out.1 k hlt wr A.bel
      have c37 := I.out.2.1 k hlt wr A.bel
      have hS := I.out.2.2.1 k hlt
      obtain ⟨cl, hcl⟩ : ∃ cl, compact (srt (S k)) = cl := ⟨_, rfl⟩
      have hsl : (srt (S k)).length = (S k).length := List.length_mergeSort _
      have F : Aside (cl.Nodup ∧ (∀ s, s ∈ cl ↔ s ∈ S k) ∧ cl.length ≤ 500) := ⟨by rw [← hcl]; exact cmp_nodup (List.pairwise_mergeSort (le := fun x y => decide (x ≤ y)) (fun a b c h1 h2 => decide_eq_true (List.le_trans (of_decide_eq_true h1) (of_decide_eq_true h2))) (fun a b => by simpa using List.le_total a b) _),
        fun s => by rw [← hcl, cmp_mem]; exact List.mem_mergeSort, by have := compact_length_le (srt (S k)); rw [hcl] at this; omega⟩
      have hC := aside hcl
      have hS' : (S k).length < 4611686018427387904 := by omega
      clear hcl hsl hS
      go_wp2_with (first
        | (go_at_call 50; refine c50.mono ?_; (rintro e w4 ⟨p, cc, rfl, hob, ho4, hg4⟩; have A4 := aside (A3.out.2.grown hg4 X3.out.1 X3.out.2.1 X3.out.2.2); clear c50))
        | (go_at_call 49; refine c49.mono ?_; (rintro e w3 ⟨rfl, ho3, hg3⟩; have A3 := aside (And.intro ho3 (A2.out.grown hg3 X3.out.1 X3.out.2.1 X3.out.2.2)); have c50 := compact50 wr.heap.size v1 (srt (S k)) w3 (by have e := List.length_mergeSort (le := fun x y => decide (x ≤ y)) (S k); rw [show (srt (S k)).length = (S k).length from e]; exact ho3); rw [hC.out] at c50; clear c49 ho3 hg3))
        | (go_at_call 37; refine c37.mono ?_; (rintro e w2 ⟨v1, rfl, ho2, hb2⟩; have X3 := aside (A.own_new ho2); have A2 := aside (A.grown (agree_grown hb2) (by simp) (or_none _) (by simp)); have c49 := sort49 wr.heap.size v1 (S k) w2 ho2 hS'; clear c37 ho2 hb2)))
      have hR : w4.ownsRow (w1.heap.size + 1) 9 1 (.slice p cl.length cc) cl.length (cl.map encStr) := ho4.mono A.own.lt
      have hN : u4.ownBlock = none ∨ u4.ownBlock ≠ (Value.slice p cl.length cc).ownBlock := by rw [hob]; exact X3.out.2.1
      have A5 := A4.out
      clear ho4 hob hg4 X3 A2 A3 hcell hC hS' A4
      go_loopg [26, 4] cl.length (fun g i vo wi => ∃ j D m out, j ≤ cl.length ∧ g = cl.length - j ∧ i = .int .i64 (j : Nat) ∧ AgC S w w1.heap.size k (cl.take j) D m out vo wi ∧ wi.ownsRow (w1.heap.size + 1) 9 1 (.slice p cl.length cc) cl.length (cl.map encStr) ∧ (vo.ownBlock = none ∨ vo.ownBlock ≠ (Value.slice p cl.length cc).ownBlock))
      case atStart => exact ⟨0, _, _, _, Nat.zero_le _, rfl, rfl, A5, hR, hN⟩
      case round =>
        obtain ⟨j, D', m', out', hj, rfl, rfl, A6, hR6, hN6⟩ := hrel
        by_cases hjl : j < cl.length
        · have hjl' : (j : Int) < cl.length := by omega
          obtain ⟨g, rfl⟩ : ∃ g, p = some ⟨g, 0, none⟩ := by
            rcases hR6.2 with ⟨_, h0⟩ | ⟨g, _, _, h, _⟩
            · omega
            · cases h; exact ⟨g, rfl⟩
          obtain ⟨s, hs⟩ : ∃ s, cl[j] = s := ⟨_, rfl⟩
          have hcs : wr.cell? ⟨g, j, none⟩ = some (Value.string ⟨s.toArray⟩) := by
            have h1 := hR6.cells (g := g) rfl j (encStr cl[j]) (by simp [hjl])
            rw [Addr.add_lit, Nat.zero_add, hs] at h1; exact h1
          have hsm : s ∈ cl := by rw [← hs]; exact List.getElem_mem hjl
          have htk : cl.take (j + 1) = cl.take j ++ [s] := by rw [List.take_succ_eq_append_getElem hjl, hs]
          have hns : s ∉ cl.take j := fun h => by
            have h1 := F.out.1
            rw [← List.take_append_drop j cl, List.nodup_append] at h1
            exact h1.2.2 s h s (by rw [← hs]; exact List.mem_iff_getElem.2 ⟨0, by simp; omega, by simp⟩) rfl
          have hkey : keyOf Tryz.prog 9 (.string ⟨s.toArray⟩) = some (.string s) := by
            have h1 := WideMaps.keyOf_string_mk Tryz.underlying9 (s := ⟨s.toArray⟩) (by have := I.out.2.2.2 k hlt s ((F.out.2.1 s).1 hsm); simpa [ByteArray.size] using this)
            simpa using h1
          obtain ⟨z, hz⟩ : ∃ z : Int, z = (cntP S k (cl.take j) s : Nat) := ⟨_, rfl⟩
          obtain ⟨y, hy⟩ : ∃ y : Int, y = z + 1 := ⟨_, rfl⟩
          have hz9 := cntP_le S k (cl.take j) s
          have ws : IntKind.i64.wrap (z + 1) = y := by rw [hy]; exact Go.Abs.wrap_in (by omega) (by omega)
          have wj : IntKind.i64.wrap ((j : Int) + 1) = ((j + 1 : Nat) : Int) := by have := F.out.2.2; rw [Go.Abs.wrap_in (by omega) (by omega)]; omega
          have hm9 := A6.hm
          have ho9 := A6.ho
          have hl9 : (cl.take j).length ≤ 500 := Nat.le_trans (by simp; omega) F.out.2.2
          have Z : Aside (keyOf Tryz.prog 9 (.string ⟨s.toArray⟩) = some (.string s) ∧ m' < maxLen ∧ plainElem (H := Unit) Tryz.prog 3 (.int .i64 y) = some (.lit (.int .i64 y), []) ∧ z = (cntP S k (cl.take j) s : Nat) ∧ y = z + 1 ∧ out'.length + 1 ≤ maxLen ∧ (out'.length + 1) * 16 ≤ 140737488355328) :=
            ⟨hkey, by unfold maxLen; omega, plainElem_int Tryz.underlying3 (by simp [Lit.wf, IntKind.min, IntKind.max, IntKind.signed, IntKind.bits]; omega), hz, hy, by unfold maxLen; omega, by omega⟩
          have Y : Aside (cl.take (j + 1) = cl.take j ++ [s] ∧ s ∉ cl.take j) := ⟨htk, hns⟩
          clear hkey hm9 ho9 hl9 hz9 hs hsm htk hns hz hj
          by_cases h2 : y = 2
          · subst h2
            clear hy
            go_wp2_with (first
          | ((at_lookup; (refine wpList_lookup_own_int _ rfl _ _ 61 rfl 9 3 .i64 lawK Tryz.underlying61 Tryz.underlying3 (zeroI _) w1.heap.size (m' + 1) (D'.put (.string s) (.lit (.int .i64 2))) rfl hm1 _ (.string s) rfl Z.out.1 ?_; intro c0 hat hwc; have e : c0 = 2 := lit_int_inj (hat.symm.trans (atKey_put_same A6.isM (show WideAt.IsKeyLit (.string s) from trivial) _ _)); rw [e]; clear e hat hwc c0)))
          | ((at_lookup; (refine wpList_lookup_own_int _ rfl _ _ 61 rfl 9 3 .i64 lawK Tryz.underlying61 Tryz.underlying3 (zeroI _) w1.heap.size (m') (D') rfl A6.own _ (.string s) rfl Z.out.1 ?_; intro c0 hat hwc; have e : c0 = z := (lit_int_inj (hat.symm.trans (A6.at_ s))).trans Z.out.2.2.2.1.symm; rw [e]; clear e hat hwc c0)))
          | ((at_mapUpdate; refine wpList_mapUpdate_own _ rfl _ _ _ 61 rfl 9 3 lawK Tryz.underlying61 _ w1.heap.size m' D' rfl A6.own Z.out.2.1 _ _ (.string s) rfl rfl Z.out.1 (.lit (.int .i64 2)) [] Z.out.2.2.1 ?_; intro w5 hm1 hg1))
          | (at_builtin; refine wpList_append_own_at _ rfl _ _ 22 rfl (w1.heap.size + 1) 9 i0 (.string ⟨#[]⟩) 1 16 Tryz.underlying22 hi hz0 hz1 hz2 rfl (by decide) _ _ _ rfl ((A6.row_put hg1).alloc _) ⟨w5.heap.size, 0, none⟩ 1 1 [.string ⟨s.toArray⟩] rfl rfl (cell_one_new _ _ _) (by intro u hu; rw [List.mem_singleton.1 hu]; rfl) Z.out.2.2.2.2.2.1 Z.out.2.2.2.2.2.2 (by have := A6.own.lt; have := hg1.size; simp; omega) ?_; intro v6 w6 hr6 hg6 hnil6 hat6; clear hnil6))
            have hg7 : (w5.alloc (.cells #[Value.string ⟨s.toArray⟩] 9)).grownBy w6 u4.ownBlock := hg6
            have hat7 : v6.ownBlock = u4.ownBlock ∨ v6.ownBlock = some (w5.alloc (.cells #[Value.string ⟨s.toArray⟩] 9)).heap.size := hat6
            have hR5 := (hR6.kept hg1 (.inr (Ne.symm (row_ne_low hR6 (Nat.lt_succ_self _))))).alloc (.cells #[Value.string ⟨s.toArray⟩] 9)
            have hR7 := hR5.kept hg7 (ne_sw hN6)
            have hN7 : v6.ownBlock = none ∨ v6.ownBlock ≠ (Value.slice (some ⟨g, 0, none⟩) cl.length cc).ownBlock := by
              rcases hat7 with h | h
              · rw [h]; exact hN6
              · rw [h]; exact .inr fun e => by have h1 := (hR5.lt _ e.symm).2; omega
            clear hat6 hg6 hat7
            go_roundg (cl.length - (j + 1))
            case rel => exact ⟨j + 1, _, _, _, hjl, rfl, by go_num, by rw [Y.out.1]; exact A6.app Y.out.2 (by have h1 := Z.out.2.2.2.1; have h2 := Z.out.2.2.2.2.1; omega) hm1 hg1 hr6 hg7, hR7, hN7⟩
            case measure => omega
          · clear hy
            go_wp2_with (first
          | ((at_lookup; (refine wpList_lookup_own_int _ rfl _ _ 61 rfl 9 3 .i64 lawK Tryz.underlying61 Tryz.underlying3 (zeroI _) w1.heap.size (m' + 1) (D'.put (.string s) (.lit (.int .i64 y))) rfl hm1 _ (.string s) rfl Z.out.1 ?_; intro c0 hat hwc; have e : c0 = y := lit_int_inj (hat.symm.trans (atKey_put_same A6.isM (show WideAt.IsKeyLit (.string s) from trivial) _ _)); rw [e]; clear e hat hwc c0)))
          | ((at_lookup; (refine wpList_lookup_own_int _ rfl _ _ 61 rfl 9 3 .i64 lawK Tryz.underlying61 Tryz.underlying3 (zeroI _) w1.heap.size (m') (D') rfl A6.own _ (.string s) rfl Z.out.1 ?_; intro c0 hat hwc; have e : c0 = z := (lit_int_inj (hat.symm.trans (A6.at_ s))).trans Z.out.2.2.2.1.symm; rw [e]; clear e hat hwc c0)))
          | ((at_mapUpdate; refine wpList_mapUpdate_own _ rfl _ _ _ 61 rfl 9 3 lawK Tryz.underlying61 _ w1.heap.size m' D' rfl A6.own Z.out.2.1 _ _ (.string s) rfl rfl Z.out.1 (.lit (.int .i64 y)) [] Z.out.2.2.1 ?_; intro w5 hm1 hg1)))
            have hR5 := hR6.kept hg1 (.inr (Ne.symm (row_ne_low hR6 (Nat.lt_succ_self _))))
            go_roundg (cl.length - (j + 1))
            case rel => exact ⟨j + 1, _, _, _, hjl, rfl, by go_num, by rw [Y.out.1]; exact A6.skip Y.out.2 (by have h1 := Z.out.2.2.2.1; have h2 := Z.out.2.2.2.2.1; omega) h2 hm1 hg1, hR5, hN6⟩
            case measure => omega
        · obtain rfl : j = cl.length := by omega
          rw [List.take_length] at A6
          have A7 := A6.next F.out.2.1 F.out.2.2
          have wk : IntKind.i64.wrap ((k : Int) + 1) = ((k + 1 : Nat) : Int) := by rw [Go.Abs.wrap_in (by omega) (by omega)]; omega
          clear A6 A5 hR hN hR6 hN6 A
          go_wp2
          go_roundg (n - (k + 1))
          case rel => exact ⟨k + 1, _, _, _, hlt, rfl, by go_num, A7⟩
          case measure => omega
    · obtain rfl : k = n := by omega
      have hm9 := A.hm
      have ho9 := A.ho
      have c49 := sort49 (w1.heap.size + 1) u4 out wr A.row (by simp at hm9; omega)
      clear hm9 ho9
      go_wp2_with (go_at_call 49; refine c49.mono ?_; rintro e w3 ⟨rfl, ho3, hg3⟩)
      go_ret
      exact ⟨w1.heap.size, D, m, out, u4, wr, A, rfl, ho3, hg3⟩
end Go.Proofs


set_option maxRecDepth 100000
set_option maxHeartbeats 4000000
namespace Go.Abs
open Go.Proofs Go.Wire Go.RowKit Go.Jr Go.Rg
theorem Spec.calls_bool {f : FuncId} {x : V} {v : Value} {t : Bool} (h : Spec Tryz.prog f [x] (fun r => r = .bool t)) {W : World} {Z : Bk → Prop} (hG : GlobB (base W)) (hz : ∀ b, Z b → b.2 < W.heap.size) (ha : ARep W Z [x] [v]) :
    Calls Tryz.prog f #[v] W fun e W' => e = .returned (.bool t) ∧ Below W.heap.size W W' := by
  refine (h.2 W Z #[v] hG hz ha).mono ?_
  rintro e w' ⟨u, r, rfl, rfl, _, hr⟩
  obtain ⟨κ, hi⟩ := hr 0
  have h0 := hi.tmps 0
  have h1 : VRep w' _ κ _ (V.bool t) u := h0
  have h2 := h1.2
  have h3 : u = .bool t := by
    have h4 : PRep w' _ (.bool t) u := h2
    cases h4; rfl
  exact ⟨by rw [h3], below_of_kept hi.kept⟩
theorem lls_slice {l : List (List Txt)} {w : World} {Z : Bk → Prop} {v : Value} (hz : ∀ b, Z b → b.2 < w.heap.size) (hv : PRep w Z (lstC 1 (lls l)) v) :
    ∃ p cap b o, ∃ V : Nat → Value, v = .slice p l.length cap ∧ (l.length ≠ 0 → p = some ⟨b, o, none⟩) ∧ ∀ k, k < l.length → b < w.heap.size ∧ w.cell? ⟨b, o + k, none⟩ = some (V k) ∧ PRep w Z (lstC 1 (strs (l.getD k []))) (V k) := by
  unfold lstC at hv
  by_cases h0 : lls l = []
  · have hl : l = [] := by simpa [lls] using h0
    subst hl
    have h' : PRep w Z (.list 0 none []) v := hv
    generalize hc : C.list 0 none [] = c at h'
    have fin : ∀ k : Nat, k < ([] : List (List Txt)).length → 0 < w.heap.size ∧ w.cell? ⟨0, 0 + k, none⟩ = some (Value.bool true) ∧ PRep w Z (lstC 1 (strs (([] : List (List Txt)).getD k []))) (Value.bool true) := fun k hk => absurd hk (by simp)
    cases h' with
    | nil => exact ⟨none, 0, 0, 0, fun _ => .bool true, rfl, fun h => absurd rfl h, fin⟩
    | emp _ _ a => exact ⟨some a, 0, 0, 0, fun _ => .bool true, rfl, fun h => absurd rfl h, fin⟩
    | list b o cap sz nl rws val =>
      injection hc with _ _ hr
      subst hr
      exact ⟨some ⟨b, o, none⟩, cap, 0, 0, fun _ => .bool true, rfl, fun h => absurd rfl h, fin⟩
    | _ => cases hc
  · have e : (if (lls l).isEmpty = true then 0 else 1) = 1 := by
      cases hh : lls l with
      | nil => exact absurd hh h0
      | cons a r => rfl
    rw [e] at hv
    generalize hc : C.list 1 none (lls l) = c at hv
    cases hv with
    | nil => injection hc with _ _ hr; exact absurd hr h0
    | emp => injection hc with _ _ hr; exact absurd hr h0
    | list b o cap sz nl rws val h1 h2 h3 h4 h5 h6 h7 =>
      injection hc with hs _ hr
      subst hs hr
      refine ⟨some ⟨b, o, none⟩, cap, b, o, fun k => val k 0, by rw [lls_len], fun _ => rfl, fun k hk => ?_⟩
      have hr : (lls l)[k]? = some [lstC 1 (strs (l.getD k []))] := by
        simp [lls, encLs, hk, List.getD]
      refine ⟨hz _ (h4 h0), ?_, h7 k 0 _ _ hr rfl⟩
      have := h6 k 0 _ _ hr rfl
      simpa using this
    | _ => cases hc
theorem cnt_take (l : List (List Txt)) (s : Txt) : ∀ k, k ≤ l.length → cntN (fun i => l.getD i []) k s = cnt (l.take k) s
  | 0, _ => rfl
  | k + 1, h => by
    have hk : k < l.length := by omega
    rw [List.take_succ_eq_append_getElem hk, cnt_app, cnt_cons, ← cnt_take l s k (by omega)]
    simp [cntN, List.getD, hk, cnt]
theorem right_lens {l : List (List Txt)} (h : rightL l = true) : l.length ≤ 3 ∧ ∀ x ∈ l, x.length ≤ 500 := by
  unfold rightL at h
  simp only [Bool.and_eq_true, decide_eq_true_eq, Bool.not_eq_true', List.any_eq_false] at h
  refine ⟨by omega, fun x hx => ?_⟩
  have := h.2 x hx
  simp [longB] at this
  omega
theorem arep1 {w : World} {Z : Bk → Prop} {c : C} {v : Value} (hv : PRep w Z c v) : ARep w Z [.k (.c c)] [v] := by
  refine ⟨rfl, fun j x u hx hu => ?_⟩
  cases j with
  | zero => simp at hx hu; subst hx hu; exact ⟨rfl, hv.oneCell, hv⟩
  | succ j => simp at hx
theorem call21 (l : List (List Txt)) (hw : ∀ x ∈ l, ∀ s ∈ x, s.length ≤ maxLen) (hR : rightL l = true) {w : World} {Z : Bk → Prop} {v : Value} (hG : GlobB (base w)) (hz : ∀ b, Z b → b.2 < w.heap.size) (hv : PRep w Z (lstC 1 (lls l)) v) :
    Calls Tryz.prog 21 #[v] w fun e w' => ∃ vo, e = .returned vo ∧ w'.ownsRow w.heap.size 9 1 vo (agreeF l).length ((agreeF l).map encStr) ∧ Below w.heap.size w w' := by
  have c48 := Spec.calls_bool (v48 l) hG hz (arep1 hv)
  rw [hR] at c48
  obtain ⟨h3, h5⟩ := right_lens hR
  obtain ⟨p, cap, b, o, V, rfl, hp, hV⟩ := lls_slice hz hv
  have hm : ∀ k, k < l.length → l.getD k [] ∈ l := fun k hk => by simp [List.getD, hk]
  refine (agree21 p b o l.length cap (fun k => l.getD k []) V w h3 c48 hp ⟨fun k hk w' hb => ?_, fun k hk w' hb => ?_, fun k hk => h5 _ (hm k hk), fun k hk => hw _ (hm k hk)⟩).mono ?_
  · rw [hb.cell (p := ⟨b, o + k, none⟩) (hV k hk).1]; exact (hV k hk).2.1
  · have hl := h5 _ (hm k hk)
    exact clone37 (l.getD k []) (by omega) (V k) w' Z (PRep.mono (fun bb hbb => hb.block _ (hz _ hbb)) (fun _ h => h) (hV k hk).2.2)
  · rintro e w' ⟨bm, D, m, out, vo, w3, A, rfl, ho, hg⟩
    have hbel : Below w.heap.size w w' := A.bel.grown hg A.bel.size (fun j hj => by have := (A.row.lt j hj).1; have := A.hb; omega)
    have hsl : (srt out).length = out.length := List.length_mergeSort _
    have hag : srt out = agreeF l := agreeF_is (sort_asc A.nod) (fun s => by
      rw [sort_mem, A.mem]
      have := cnt_take l s l.length (Nat.le_refl _)
      rw [List.take_length] at this
      simp only [cntP, this]
      simp)
    have ho2 := ho.mono (base' := w.heap.size) (by have := A.hb; omega)
    rw [← hsl, hag] at ho2
    exact ⟨vo, rfl, ho2, hbel⟩
theorem cells_enc (l : List Txt) : cellsC (strs l) = l.map encStr := by rw [cells_strs, List.map_map]; rfl
theorem own_result {w w' : World} {vo : Value} {ag : List Txt} (hG : GlobB (base w)) (Z : Bk → Prop) (ho : w'.ownsRow w.heap.size 9 1 vo ag.length (ag.map encStr)) (hb : Below w.heap.size w w') : RRep (base w) Z (.k (.newl 9 1 none (strs ag))) vo w' :=
  rrep1 hG (kept_of_below hb) (fresh_of_owns (n := ag.length) (plain_strs _) (by rw [cells_enc]; exact ho) (by rw [strs_len]))
theorem v21 (l : List (List Txt)) (hw : ∀ x ∈ l, ∀ s ∈ x, s.length ≤ maxLen) (hR : rightL l = true) :
    Spec Tryz.prog 21 [lst 1 (lls l)] (fun r => r = .k (.newl 9 1 none (strs (agreeF l)))) := by
  refine ⟨callable_at (by kernel_rfl), fun w Z vs hG hz ha => ?_⟩
  obtain ⟨vl⟩ := vs
  match vl, ha with
  | [], ha => exact absurd ha.1 (by simp)
  | _ :: _ :: _, ha => exact absurd ha.1 (by simp)
  | [v], ha =>
    refine (call21 l hw hR hG hz (ha.2 0 _ v rfl rfl).2.2).mono ?_
    rintro e w' ⟨vo, rfl, ho, hb⟩
    exact ⟨_, _, rfl, rfl, fun τ => rfl, own_result hG _ ho hb⟩
end Go.Abs


set_option maxRecDepth 100000
namespace Go.Proofs
open Go.Shelf Go.RowKit
def Tryz.laysHas_ren : Go.Shelf.Ren :=
  {
    f := fun x =>
      match x with
      | 110 => 36
      | 109 => 67
      | n => n,
    t := fun x =>
      match x with
      | 31 => 22
      | 9 => 9
      | 4 => 4
      | 3 => 3
      | 0 => 0
      | n => n,
    g := fun n => n }
theorem Tryz.laysHas : Lays.n110 Tryz.prog Tryz.laysHas_ren :=
  { mixed := by kernel_rfl, f109 := Eq.trans Tryz.func67 (congrArg some (Eq.refl (Body.n109 Tryz.laysHas_ren))),
    f110 := Eq.trans Tryz.func36 (congrArg some (Eq.refl (Body.n110 Tryz.laysHas_ren))), t0 := Tryz.underlying0,
    a0 := Tryz.isAgg0, z0 := Tryz.sizeOf0, v0 := Tryz.zeroValue0, t3 := Tryz.underlying3, a3 := Tryz.isAgg3,
    z3 := Tryz.sizeOf3, v3 := Tryz.zeroValue3, t4 := Tryz.underlying4, a4 := Tryz.isAgg4, z4 := Tryz.sizeOf4,
    v4 := Tryz.zeroValue4, t9 := Tryz.underlying9, a9 := Tryz.isAgg9, z9 := Tryz.sizeOf9, v9 := Tryz.zeroValue9,
    t31 := Tryz.underlying22, a31 := Tryz.isAgg22, z31 := Tryz.sizeOf22, v31 := Tryz.zeroValue22 }
end Go.Proofs


set_option maxRecDepth 100000
set_option maxHeartbeats 2000000
namespace Go.Proofs
open Go.Shelf Go.RowKit Go.Lib Go.Sort Go.Rg Go.Wire
theorem aside0 {p : Prop} (h : p) : Aside p := h
theorem has36 (l : List Txt) (hl : l.length ≤ 4000000) (v : Value) (w : World) (Z : Go.Abs.Bk → Prop) (hv : Go.Abs.PRep w Z (Go.Abs.lstC 1 (Go.Abs.strs l)) v) (x : Txt) :
    Calls Tryz.prog 36 #[v, encStr x] w fun e w' => e = .returned (.bool (decide (x ∈ l))) ∧ w' = w := by
  obtain ⟨p, k, rfl, q, m⟩ := (Go.Abs.plain_strs l).slice hv
  by_cases h0 : l = []
  · subst h0
    refine (Any.slices_Contains_string_empty Tryz.laysHas p k ⟨x.toArray⟩ w).mono ?_
    rintro e w' ⟨rfl, rfl⟩
    exact ⟨by simp, rfl⟩
  · have hpos : 0 < (Go.Abs.strs l).length := by rw [Go.Abs.strs_len]; exact List.length_pos_iff.2 h0
    obtain ⟨b, o, rfl, g⟩ := q hpos
    refine (Any.slices_Contains_string Tryz.laysHas b o (Go.Abs.strs l).length k (l.map fun s => (⟨s.toArray⟩ : ByteArray)) ⟨x.toArray⟩ w (by rw [Go.Abs.strs_len, List.length_map]; exact Nat.le_refl _) (by rw [Go.Abs.strs_len]; omega) ?_).mono ?_
    · intro j hj
      refine g j _ ?_
      rw [Go.Abs.cells_strs, List.getElem?_map, List.getD_eq_getElem?_getD, List.getElem?_eq_getElem hj]; rfl
    · rintro e w' ⟨rfl, rfl⟩
      rw [List.take_of_length_le (by rw [Go.Abs.strs_len, List.length_map]; exact Nat.le_refl _)]
      refine ⟨?_, rfl⟩
      have e1 : containsS (l.map fun s => (⟨s.toArray⟩ : ByteArray)) ⟨x.toArray⟩ = decide (x ∈ l) := by
        rw [Bool.eq_iff_iff, containsS_iff, decide_eq_true_eq, List.mem_map]
        constructor
        · rintro ⟨a, ha, hax⟩
          have : a = x := by injection hax with h1; injection h1
          exact this ▸ ha
        · exact fun h => ⟨x, h, rfl⟩
      rw [e1]
theorem clos53 (x : Txt) (b2 b3 b o n c i : Nat) (v : Value) (t : Bool) (W : World) (h2 : W.cell? ⟨b2, 0, none⟩ = some (.slice (some ⟨b, o, none⟩) n c)) (h3 : W.cell? ⟨b3, 0, none⟩ = some (.int .i64 i)) (hi : i < n)
    (hv : W.cell? ⟨b, o + i, none⟩ = some v) (c36 : Calls Tryz.prog 36 #[v, encStr x] W fun e w' => e = .returned (.bool t) ∧ w' = W) :
    FnGives Tryz.prog 53 #[.pointer (some ⟨b2, 0, none⟩), .pointer (some ⟨b3, 0, none⟩)] #[encStr x] (.bool t) W := by
  have hi' : (i : Int) < n := by omega
  show Calls Tryz.prog 53 #[encStr x, .pointer (some ⟨b2, 0, none⟩), .pointer (some ⟨b3, 0, none⟩)] W _
  go_enter Tryz.func53, Tryz.ntmps53
  go_wp2_with (go_at_call 36; refine c36.mono ?_; rintro e w1 ⟨rfl, rfl⟩)
  go_ret
  exact ⟨rfl, 0, rfl⟩
theorem oneStr : OneCell encStr := fun _ => rfl
theorem del52 (B : Nat) (vo : Value) (ag : List Txt) (q : Txt → Bool) (lb : Array Value) (w : World) (hl : ag.length ≤ 4000000) (ho : w.ownsRow B 9 1 vo ag.length (ag.map encStr))
    (hp : ∀ W x, (∀ k, k < B → W.heap[k]? = w.heap[k]?) → FnGives Tryz.prog 53 lb #[encStr x] (.bool (q x)) W) :
    Calls Tryz.prog 52 #[vo, .func (.func 53) #[] lb] w fun e w' => ∃ v', e = .returned v' ∧ w'.ownsRow B 9 1 v' (ag.filter fun x => !q x).length ((ag.filter fun x => !q x).map encStr) ∧ w.grownBy w' vo.ownBlock := by
  have hle := List.length_filter_le (fun x => !q x) ag
  rcases ho.2 with ⟨hv, h0⟩ | ⟨g, cap, cur, hv, hbase, hb, h1, h2, h3, h4⟩
  · subst hv
    have : ag = [] := List.eq_nil_of_length_eq_zero h0
    subst this
    have c77 : Calls Tryz.prog 77 #[.slice none 0 0, .func (.func 53) #[] lb] w fun e w' => e = .returned (.int .i64 (-1)) ∧ w' = w := AnyE.slices_IndexFunc_empty { Tryz.laysDel with } none 0 _ w
    go_enter Tryz.func52, Tryz.ntmps52
    go_wp2_with (go_at_call 77; refine c77.mono ?_; rintro e w1 ⟨rfl, rfl⟩)
    go_ret
    exact ⟨_, rfl, ho, World.grownBy.refl _ _⟩
  · subst hv
    have hlt : g < w.heap.size := (Array.getElem?_eq_some_iff.1 hb).1
    refine (AnyE.slices_DeleteFunc (α := Txt) Tryz.laysDel encStr oneStr q 53 lb (enters_of Tryz.func53 (by kernel_rfl) rfl) [] (fun _ => by kernel_rfl) g 0 cap ag.toArray w
      (fun W x hbW => hp W x fun k hk => hbW.block k (by omega))
      (fun n os dk x _ => hp _ x fun k hk => (grownBy_sorted (os := os) dk).block k (by omega) (fun e => by cases e; omega))
      (holds_of_block hb (by simpa using h4)) (by simp; omega) (by simpa using h1)).mono ?_
    rintro e w' ⟨rfl, n, rfl⟩
    have hc := ownsRow_putRow (q := n) (k := (ag.filter fun x => !q x).length) (ys := (ag.filter fun x => !q x) ++ List.replicate (ag.length - (ag.filter fun x => !q x).length) []) ho (by simp; omega) hle
    rw [List.take_left] at hc
    have hg := grownBy_sorted (w := w) (g := g) (n := n) (os := #[]) ((ag.filter fun x => !q x) ++ List.replicate (ag.length - (ag.filter fun x => !q x).length) []).toArray
    rw [grow_empty] at hg
    exact ⟨_, rfl, hc, hg⟩
end Go.Proofs


set_option maxRecDepth 100000
set_option maxHeartbeats 2000000
namespace Go.Proofs
open Go.Shelf Go.RowKit Go.Lib Go.Sort Go.Rg Go.Wire
theorem lacks23 (b o n c i : Nat) (hi : i < n) (V : Value) (li ag : List Txt) (hl : ag.length ≤ 4000000) (w : World)
    (C : Aside ((∀ w', Below w.heap.size w w' → Calls Tryz.prog 48 #[.slice (some ⟨b, o, none⟩) n c] w' fun e w2 => e = .returned (.bool true) ∧ Below w'.heap.size w' w2) ∧
      (∀ w', Below w.heap.size w w' → Calls Tryz.prog 21 #[.slice (some ⟨b, o, none⟩) n c] w' fun e w2 => ∃ vo, e = .returned vo ∧ w2.ownsRow w'.heap.size 9 1 vo ag.length (ag.map encStr) ∧ Below w'.heap.size w' w2) ∧
      b < w.heap.size ∧ w.cell? ⟨b, o + i, none⟩ = some V ∧
      ∀ (W : World) x, (∀ k, k < w.heap.size → W.heap[k]? = w.heap[k]?) → Calls Tryz.prog 36 #[V, encStr x] W fun e w' => e = .returned (.bool (decide (x ∈ li))) ∧ w' = W)) :
    Calls Tryz.prog 23 #[.slice (some ⟨b, o, none⟩) n c, .int .i64 i] w fun e w' => ∃ v', e = .returned v' ∧ w'.ownsRow w.heap.size 9 1 v' (ag.filter fun x => !decide (x ∈ li)).length ((ag.filter fun x => !decide (x ∈ li)).map encStr) ∧ Below w.heap.size w w' := by
  have hi' : (i : Int) < n := by omega
  have hb0 : Below w.heap.size w ((w.alloc (.cells #[.slice (some ⟨b, o, none⟩) n c] 26)).alloc (.cells #[.int .i64 i] 3)) := ((Below.refl _ _).alloc (Nat.le_refl _) _).alloc (by simp) _
  have c48 := C.out.1 _ hb0
  have hsz : (w.alloc (.cells #[.slice (some ⟨b, o, none⟩) n c] 26)).heap.size = w.heap.size + 1 := Array.size_push _
  have hsz2 : ((w.alloc (.cells #[.slice (some ⟨b, o, none⟩) n c] 26)).alloc (.cells #[.int .i64 i] 3)).heap.size = w.heap.size + 2 := (Array.size_push _).trans (by rw [hsz])
  have g2 : ((w.alloc (.cells #[.slice (some ⟨b, o, none⟩) n c] 26)).alloc (.cells #[.int .i64 i] 3)).cell? ⟨w.heap.size, 0, none⟩ = some (.slice (some ⟨b, o, none⟩) n c) :=
    by rw [Lib.cell_of_heap ((Below.heap_alloc (w.alloc (.cells #[.slice (some ⟨b, o, none⟩) n c] 26)) (.cells #[.int .i64 i] 3) w.heap.size (by rw [hsz]; omega)).trans (heap_alloc_new w (.cells #[.slice (some ⟨b, o, none⟩) n c] 26)))]; rfl
  have g3 : ((w.alloc (.cells #[.slice (some ⟨b, o, none⟩) n c] 26)).alloc (.cells #[.int .i64 i] 3)).cell? ⟨w.heap.size + 1, 0, none⟩ = some (.int .i64 i) := by
    have h := heap_alloc_new (w.alloc (.cells #[.slice (some ⟨b, o, none⟩) n c] 26)) (.cells #[.int .i64 i] 3)
    rw [hsz] at h
    rw [Lib.cell_of_heap h]; rfl
  have G := aside0 (And.intro hb0 (And.intro g2 (And.intro g3 hsz2)))
  clear hb0 g2 g3 hsz hsz2
  go_enter Tryz.func23, Tryz.ntmps23
  go_wp2_with (first
    | (go_at_call 52; refine c52.mono ?_; rintro e w3 ⟨v3, rfl, ho3, hg3⟩; have K3 := aside0 (And.intro ho3 hg3); clear ho3 hg3 c52)
    | (go_at_call 21; refine c21.mono ?_; rintro e w2 ⟨vo, rfl, ho, hb2⟩
       have c52 := del52 w1.heap.size vo ag (fun x => decide (x ∈ li)) #[.pointer (some ⟨w.heap.size, 0, none⟩), .pointer (some ⟨w.heap.size + 1, 0, none⟩)] w2 hl ho (fun W x hW => by
         have hW1 : ∀ k, k < w1.heap.size → W.heap[k]? = w1.heap[k]? := fun k hk => (hW k hk).trans (hb2.block k hk)
         have hs := K1.out.2.2.2
         refine clos53 x _ _ b o n c i V _ W ((World.cell?_of_block (hW1 _ (by show w.heap.size < _; omega))).trans K1.out.2.1) ((World.cell?_of_block (hW1 _ (by show w.heap.size + 1 < _; omega))).trans K1.out.2.2.1) hi ?_ ?_
         · have hbb := C.out.2.2.1
           rw [World.cell?_of_block (w := w) (w' := W) (a := ⟨b, o + i, none⟩) ((hW1 b (by omega)).trans (K1.out.1.block b hbb))]
           exact C.out.2.2.2.1
         · exact C.out.2.2.2.2 W x fun k hk => (hW1 k (by omega)).trans (K1.out.1.block k hk))
       have K2 := aside0 (And.intro ho hb2)
       clear c21 ho hb2)
    | (go_at_call 48; go_loud (refine c48.mono ?_; rintro e w1 ⟨rfl, hb1⟩; have k1 : Below w.heap.size w w1 := G.out.1.trans (hb1.mono (by rw [G.out.2.2.2]; omega)); have k2 : w1.cell? ⟨w.heap.size, 0, none⟩ = some (.slice (some ⟨b, o, none⟩) n c) := (hb1.cell (p := ⟨w.heap.size, 0, none⟩) (by rw [G.out.2.2.2]; show w.heap.size < _; omega)).trans G.out.2.1; have k3 : w1.cell? ⟨w.heap.size + 1, 0, none⟩ = some (.int .i64 i) := (hb1.cell (p := ⟨w.heap.size + 1, 0, none⟩) (by show w.heap.size + 1 < _; simp)).trans G.out.2.2.1; have c21 := C.out.2.1 w1 k1; have K1 := aside0 (And.intro k1 (And.intro k2 (And.intro k3 (show w.heap.size + 2 ≤ w1.heap.size from Nat.le_trans (Nat.le_of_eq G.out.2.2.2.symm) hb1.size)))); clear k1 hb1 c48)))
  go_ret
  have ho2 := K2.out.1
  have hb2 := K2.out.2
  have hbe := K1.out.1.trans (hb2.mono (by have := K1.out.2.2.2; omega))
  exact ⟨v3, rfl, K3.out.1.mono (by have := K1.out.2.2.2; omega), hbe.grown K3.out.2 hbe.size (fun j hj => by have := (ho2.lt j hj).1; have := K1.out.2.2.2; omega)⟩
end Go.Proofs


set_option maxRecDepth 100000
set_option maxHeartbeats 4000000
namespace Go.Abs
open Go.Proofs Go.Wire Go.RowKit Go.Jr Go.Rg
theorem v23 (l : List (List Txt)) (hw : ∀ x ∈ l, ∀ s ∈ x, s.length ≤ maxLen) (hR : rightL l = true) (i : Nat) (hi : i < l.length) :
    Spec Tryz.prog 23 [lst 1 (lls l), .int .i64 i] (fun r => r = .k (.newl 9 1 none (strs (lackX l i)))) := by
  refine ⟨callable_at (by kernel_rfl), fun w Z vs hG hz ha => ?_⟩
  obtain ⟨vl⟩ := vs
  match vl, ha with
  | [], ha => exact absurd ha.1 (by simp)
  | [_], ha => exact absurd ha.1 (by simp)
  | _ :: _ :: _ :: _, ha => exact absurd ha.1 (by simp)
  | [v, vi], ha =>
    have hv : PRep w Z (lstC 1 (lls l)) v := (ha.2 0 _ v rfl rfl).2.2
    have hvi : vi = .int .i64 i := by
      have h : PRep w Z (.int .i64 i) vi := (ha.2 1 _ vi rfl rfl).2.2
      cases h; rfl
    subst hvi
    have hlen := agree_le l
    have hag : agreeX l = agreeF l := by unfold agreeX; rw [if_pos hR]
    obtain ⟨h3, h5⟩ := right_lens hR
    have hv0 := hv
    obtain ⟨p, cap, b, o, V, rfl, hp, hV⟩ := lls_slice hz hv
    obtain rfl := hp (by omega)
    have hsame : ∀ w', Below w.heap.size w w' → PRep w' Z (lstC 1 (lls l)) (.slice (some ⟨b, o, none⟩) l.length cap) := fun w' hb => PRep.mono (fun bb hbb => hb.block _ (hz _ hbb)) (fun _ h => h) hv0
    have hz' : ∀ w', Below w.heap.size w w' → ∀ b, Z b → b.2 < w'.heap.size := fun w' hb bb hbb => Nat.lt_of_lt_of_le (hz bb hbb) hb.size
    have hG' : ∀ w', Below w.heap.size w w' → GlobB (base w') := fun w' hb => hG.later (kept_of_below hb)
    have hm : l.getD i [] ∈ l := by simp [List.getD, hi]
    refine (lacks23 b o l.length cap i hi (V i) (l.getD i []) (agreeF l) (by rw [← hag]; exact hlen) w ⟨fun w' hb => ?_, fun w' hb => ?_, (hV i hi).1, (hV i hi).2.1, fun W x hW => ?_⟩).mono ?_
    · have := Spec.calls_bool (v48 l) (hG' w' hb) (hz' w' hb) (arep1 (hsame w' hb))
      rw [hR] at this
      exact this
    · exact call21 l hw hR (hG' w' hb) (hz' w' hb) (hsame w' hb)
    · exact has36 (l.getD i []) (by have := h5 _ hm; omega) (V i) W Z (PRep.mono (fun bb hbb => hW _ (hz _ hbb)) (fun _ h => h) (hV i hi).2.2) x
    · rintro e w' ⟨vo, rfl, ho, hb⟩
      have e1 : ((agreeF l).filter fun x => !decide (x ∈ l.getD i [])) = lackX l i := by
        unfold lackX
        rw [hag]
        congr 1
        funext x
        simp
      rw [e1] at ho
      exact ⟨_, _, rfl, rfl, fun τ => rfl, own_result hG _ ho hb⟩
end Go.Abs


set_option maxRecDepth 100000
set_option maxHeartbeats 4000000
namespace Go.Abs
open Go.Proofs Go.Wire Go.RowKit Go.Jr Go.Rg
theorem take_new {d : Disk} {l : List Txt} {c : Nat} (h : Jr.Inv d l c) {s : Txt} (hs : s ∉ l) : takeR d s = appendJ d s := by
  unfold takeR; rw [h.read]; simp [hs]
theorem take_old {d : Disk} {l : List Txt} {c : Nat} (h : Jr.Inv d l c) {s : Txt} (hs : s ∈ l) : takeR d s = (d, 5) := by
  unfold takeR; rw [h.read]; simp [hs]
theorem rep_new {d d' : Disk} {s : Txt} {l : List Txt} {n : Nat} (h : takeR d s = (d', 0)) : repairR d (s :: l) n = repairR d' l (n + 1) := by rw [repairR, h]; simp
theorem rep_old {d d' : Disk} {s : Txt} {l : List Txt} {n : Nat} (h : takeR d s = (d', 5)) : repairR d (s :: l) n = repairR d l n := by rw [repairR, h]; simp
theorem l8 : Spec Tryz.prog 8 [] (fun r => r = .bool true) := by
  refine Spec.of_awlS hf8 okf8 (by simp) fun S hS => ?_
  have c11 := v11 5
  obtain ⟨a, ha, ia, sa, la, _⟩ := format_ok (n := 5) (by decide) (by decide)
  rw [show newR 5 = (a, 0) by rw [← ha]; rfl] at c11
  obtain ⟨b, hb, ib, sb, lb, _⟩ := append_ok ia (s := [97]) (by decide) (by decide) (by rw [sa]; exact Nat.le_of_ble_eq_true (by kernel_rfl)) (.inl la)
  have lb := lb la
  obtain ⟨c, hc, ic, sc, lc, _⟩ := append_ok ib (s := [98]) (by decide) (by decide) (by rw [sb, sa]; exact Nat.le_of_ble_eq_true (by kernel_rfl)) (.inl lb)
  have lc := lc lb
  obtain ⟨d, hd, id, sd, ld, _⟩ := append_ok ic (s := [99]) (by decide) (by decide) (by rw [sc, sb, sa]; exact Nat.le_of_ble_eq_true (by kernel_rfl)) (.inl lc)
  have ld := ld lc
  obtain ⟨e, he, ie, se, le, _⟩ := append_ok id (s := [100]) (by decide) (by decide) (by rw [sd, sc, sb, sa]; exact Nat.le_of_ble_eq_true (by kernel_rfl)) (.inl ld)
  have t1 := v14 _ ia.right [97] (by decide)
  rw [take_new ia (by decide), hb] at t1
  have t2 := v14 _ ib.right [98] (by decide)
  rw [take_new ib (by decide), hc] at t2
  have t3 := v14 _ ic.right [97] (by decide)
  rw [take_old ic (by decide)] at t3
  have r1 := v25 _ ic.right [[98], [99], [100]] (by decide) (by decide)
  rw [show repairR c [[98], [99], [100]] 0 = ((e, 2), 0) by
    rw [rep_old (take_old ic (by decide)), rep_new ((take_new ic (by decide)).trans hd), rep_new ((take_new id (by decide)).trans he)]
    rfl] at r1
  have l1 := v18 _ ie.right
  rw [ie.read] at l1
  have l1 : Spec Tryz.prog 18 [dV e] (fun r => r = .tup [lst 1 (strs [[97], [98], [99], [100]]), .int .i64 0]) := l1
  have q1 := w26 [[97], [98], [99], [100]] [[97], [98], [99], [100]]
  rw [decide_eq_true rfl] at q1
  have m1 := b23 _ ib.right 1
  rw [show armD b 1 = (⟨b.secs, b.pend, 1, b.down⟩, 0) by rw [armD, if_neg (by simp [ib.up]), if_neg (by decide)]] at m1
  have ix := armed ib (k := 1) (by decide) (by decide)
  obtain ⟨zs, hz, iz, sz⟩ := append_cut ix (s := [98]) (by decide) (by decide) (by show _ ≤ 16 * (b.secs.length - 2); rw [sb, sa]; exact Nat.le_of_ble_eq_true (by kernel_rfl)) (by show (0 : Int) ≤ 1; decide) (by show (1 : Int) ≤ ((dataW ([] ++ [[97]]) [98]).length : Int); exact Int.ofNat_le.2 (Nat.le_of_ble_eq_true (by kernel_rfl)))
  have t4 := v14 _ ix.right [98] (by decide)
  rw [take_new ix (by decide), hz] at t4
  have u1 := v16 _ (right_down iz.right)
  rw [show startD ⟨zs, [], -1, true⟩ = (⟨zs, [], -1, false⟩, 0) from rfl] at u1
  have l2 := v18 _ iz.right
  rw [iz.read] at l2
  have l2 : Spec Tryz.prog 18 [dV ⟨zs, [], -1, false⟩] (fun r => r = .tup [lst 1 (strs [[97]]), .int .i64 0]) := l2
  have q2 := w26 [[97]] [[97]]
  rw [decide_eq_true rfl] at q2
  have g1 := v21 [[[97], [98], [99]], [[98], [100]], [[99], [98], [97]]] (by decide) (by kernel_rfl)
  rw [show agreeF [[[97], [98], [99]], [[98], [100]], [[99], [98], [97]]] = [[97], [98], [99]] by kernel_rfl] at g1
  have g2 := v23 [[[97], [98], [99]], [[98], [100]], [[99], [98], [97]]] (by decide) (by kernel_rfl) 1 (by decide)
  rw [show lackX [[[97], [98], [99]], [[98], [100]], [[99], [98], [97]]] 1 = [[97], [99]] by kernel_rfl] at g2
  have q3 := w26 [[97], [98], [99]] [[97], [98], [99]]
  rw [decide_eq_true rfl] at q3
  have q4 := w26 [[97], [99]] [[97], [99]]
  rw [decide_eq_true rfl] at q4
  simp only [resD, resR, dV, encD] at *
  simp only [normRows_strs, normRows_wrs, Qs, uu f8.eq_1, vv f8r38.eq_1, uu f8b39.eq_1, vv f8r40.eq_1, uu f8b41.eq_1]
  refine call_r c11 ?_
  simp only [normRows_strs, normRows_wrs, Qs, if_true, List.append_nil, Nat.reduceAdd, Nat.reduceMul, Nat.reduceBEq, vv f8r36.eq_1, uu f8b37.eq_1]
  refine call_r t1 ?_
  simp only [normRows_strs, normRows_wrs, Qs, if_true, bne_iff_ne, ne_eq, List.append_nil, Nat.reduceAdd, Nat.reduceMul, Nat.reduceEqDiff, Nat.reduceBEq, vv f8r32.eq_1, uu f8b33.eq_1, vv f8r34.eq_1, uu f8b35.eq_1]
  refine call_r t2 ?_
  simp only [normRows_strs, normRows_wrs, Qs, if_true, List.append_nil, Nat.reduceAdd, Nat.reduceMul, Nat.reduceBEq, vv f8r30.eq_1, uu f8b31.eq_1]
  refine call_r t3 ?_
  simp only [normRows_strs, normRows_wrs, Qs, q_List_set_cons_succ, if_true, forall_eq_or_imp, forall_eq, bne_iff_ne, ne_eq, List.append_nil, List.mem_cons, Nat.reduceAdd, Nat.reduceMul, Nat.reduceEqDiff, Nat.reduceLT, Nat.reduceBEq, List.not_mem_nil, vv f8r28.eq_1, uu f8b29.eq_1]
  refine call_o 43 (by simp [look, lookT]) r1 (by simp [lendL, lendO, lookO, V.isPure]) (by simp [lendL, lendO, lookO, V.norm, norm_list, lst]; rfl) (by simp [V.toks, Abs.K.toks]) (by simp [lookO, plainO]) rfl ?_
  simp only [normRows_strs, normRows_wrs, Qs, if_true, if_false, List.append_nil, Nat.reduceAdd, Nat.reduceMul, Nat.reduceEqDiff, Nat.reduceBEq, z_V_agg, z_V_tup, z_O_var, z_K_ptr_arr, vv f8r26.eq_1, uu f8b27.eq_1]
  refine call_r l1 ?_
  simp only [normRows_strs, normRows_wrs, Qs, q_AOp_dst_eq_7, q_List_set_cons_succ, if_true, if_false, forall_eq_or_imp, forall_eq, bne_iff_ne, ne_eq, List.append_nil, List.mem_cons, Nat.reduceAdd, Nat.reduceMul, Nat.reduceEqDiff, Nat.reduceLT, Nat.reduceBEq, Int.reduceBNe, List.not_mem_nil, vv f8r23.eq_1, uu f8b24.eq_1, uu f8b25.eq_1]
  refine call_s q1 ?_ (ha := by simp [lendL, lendO, lookO, V.norm, norm_list, lst]; rfl)
  simp only [normRows_strs, normRows_wrs, Qs, if_true, if_false, Nat.reduceAdd, Nat.reduceBEq, vv f8r18.eq_1, uu f8b19.eq_1, uu f8b22.eq_1]
  refine call_r m1 ?_
  simp only [normRows_strs, normRows_wrs, Qs, if_true, bne_iff_ne, ne_eq, List.append_nil, Nat.reduceAdd, Nat.reduceMul, Nat.reduceEqDiff, Nat.reduceBEq, vv f8r16.eq_1, uu f8b17.eq_1]
  refine call_r t4 ?_
  simp only [normRows_strs, normRows_wrs, Qs, if_true, bne_iff_ne, ne_eq, Int.reduceNeg, List.append_nil, Nat.reduceAdd, Nat.reduceMul, Nat.reduceEqDiff, Nat.reduceBEq, vv f8r14.eq_1, uu f8b15.eq_1]
  refine call_r u1 ?_
  simp only [normRows_strs, normRows_wrs, Qs, if_true, bne_iff_ne, ne_eq, Int.reduceNeg, List.append_nil, Nat.reduceAdd, Nat.reduceMul, Nat.reduceEqDiff, Nat.reduceBEq, vv f8r12.eq_1, uu f8b13.eq_1]
  refine call_r l2 ?_
  simp only [normRows_strs, normRows_wrs, Qs, q_AOp_dst_eq_7, if_true, if_false, forall_eq, bne_iff_ne, ne_eq, Int.reduceNeg, List.append_nil, List.mem_cons, Nat.reduceAdd, Nat.reduceMul, Nat.reduceEqDiff, Nat.reduceLT, Nat.reduceBEq, Int.reduceBNe, List.not_mem_nil, vv f8r9.eq_1, uu f8b10.eq_1, uu f8b11.eq_1]
  refine call_s q2 ?_ (ha := by simp [lendL, lendO, lookO, V.norm, norm_list, lst]; rfl)
  simp only [normRows_strs, normRows_wrs, awl.eq_15, frzL.eq_1, frzL.eq_2, Qs, q_List_set_cons_succ, if_true, if_false, forall_eq_or_imp, forall_eq, bne_iff_ne, ne_eq, Int.reduceNeg, List.mem_cons, Nat.reduceEqDiff, Nat.reduceLT, Nat.reduceBEq, List.not_mem_nil, z_V_agg, z_V_any, z_V_tup, z_O_var, z_O_arr, q_awl_eq_14, z_K_ptr_arr, vv f8r1.eq_1, uu f8b2.eq_1, vv f8r3.eq_1, vv f8r4.eq_1, uu f8b5.eq_1, uu f8b8.eq_1]
  refine call_l g1 ?_ (ha := by simp [lendL, V.norm, lst, lstC, lls, encLs, strs, encS, C.norm, C.normRows, C.normRow])
  simp only [normRows_strs, normRows_wrs, Qs, q_List_set_cons_succ, forall_eq_or_imp, forall_eq, bne_iff_ne, ne_eq, Int.reduceNeg, List.mem_cons, Nat.reduceEqDiff, Nat.reduceLT, Nat.reduceBEq, List.not_mem_nil]
  refine call_s q3 ?_ (ha := by simp [lendL, lendO, lookO, V.norm, norm_list, lst]; rfl)
  simp only [normRows_strs, normRows_wrs, Qs, Int.reduceNeg, Nat.reduceBEq]
  refine call_l g2 ?_ (ha := by simp [lendL, V.norm, lst, lstC, lls, encLs, strs, encS, C.norm, C.normRows, C.normRow])
  simp only [normRows_strs, normRows_wrs, Qs, q_AOp_dst_eq_7, q_List_set_cons_succ, forall_eq_or_imp, forall_eq, bne_iff_ne, ne_eq, Int.reduceNeg, List.mem_cons, Nat.reduceEqDiff, Nat.reduceLT, Nat.reduceBEq, List.not_mem_nil]
  refine call_s q4 ?_ (ha := by simp [lendL, lendO, lookO, V.norm, norm_list, lst]; rfl)
  simp only [normRows_strs, normRows_wrs, Qs, q_V_nrm_eq_6, q_C_normRows_eq_2, q_List_isEmpty_cons, if_true, if_false, Int.reduceNeg, List.nodup_nil, Nat.reduceBEq]
  exact hS
end Go.Abs


set_option maxRecDepth 100000
namespace Go.Abs
section
variable {P : Program}
end
theorem ifc_trod {H : Type} {enc : TypeId × Value → H} {P : Program} {w : World} {base : Nat} {sp : Nat → Bool} {held : Bool} {fuel : Nat} {t : TypeId} {ms : Array (String × TypeId)} {cs : List Value} {x : DataW H × List MemPlace}
    (ht : P.underlying t = some (.interface ms)) (h : DataW.trod enc P w base sp held fuel t cs = some x) : ∃ v, cs = [v] ∧ (v = .nilIface ∨ ∃ t p, v = .iface t p) := by
  cases fuel with
  | zero => simp [DataW.trod] at h
  | succ n =>
    unfold DataW.trod at h
    rw [ht] at h
    split at h <;> simp_all
end Go.Abs
namespace Go.Abs
theorem arg_ss {P : Program} {n : Nat} {t e : TypeId} {r : List C} (ht : P.underlying t = some (.slice e)) (he : P.underlying e = some .string) (hc : P.cellsOf e = 1) (hr : Shape P n t r) : ∃ l : List Go.Wire.Txt, argV P t r = lst 1 (strs l) := by
  obtain ⟨m, rows, rfl, rfl, _, h⟩ := shape_slice ht hr
  obtain ⟨l, rfl⟩ := rows_of encS (fun r hr => by obtain ⟨x, rfl, _⟩ := shape_str he hr; exact ⟨x, rfl⟩) rows h
  exact ⟨l, by simp only [argV, ht, hc]; rfl⟩
end Go.Abs
namespace Go.Proofs.YtnendldalcpgeaaGreatDoor
open Go.Abs Go.RowKit Go.ChangeShapes Go.WideShapes Go.ChangeAt Go.WideMaps Go.WideElems Go.Wire
theorem own : ownKnob Tryz.prog.godebug = none := by kernel_rfl
theorem kids : Kids Tryz.prog (· < Tryz.prog.types.size) := kids_rows (by kernel_rfl) (by kernel_rfl)
theorem full : ∀ t e, t < Tryz.prog.types.size → Tryz.prog.underlying t = some (.slice e) → 0 < Tryz.prog.cellsOf e := slices_full_of Tryz.prog (by kernel_rfl)
def plainTs : List TypeId := [3, 4, 9, 22, 23, 25, 26, 52]
theorem plainTs_ok : plainT Tryz.prog plainTs = true := by kernel_rfl
theorem plainTs_lt : ∀ t ∈ plainTs, t < Tryz.prog.types.size := by
  have : plainTs.all (fun t => decide (t < Tryz.prog.types.size)) = true := by kernel_rfl
  simpa using this
abbrev laidL : List (String × DataW Unit) := Rows.registryOnceRow.laid
theorem block_of {W : World} {name : String} {g : Nat} {cs : Array Value} (hn : Tryz.prog.globalNamed name = some g) (hv : W.var? Tryz.prog name = some cs) : ∃ t f, W.heap[g]? = some (.cells cs t f) := by
  unfold World.var? at hv
  rw [hn, Option.bind_some] at hv
  split at hv
  · rename_i h
    cases hv
    exact ⟨_, _, h⟩
  · cases hv
theorem err_of {W : World} (h : laidMet Tryz.prog laidL W) {name : String} {g : Nat} {d : DataW Unit} (hn : Tryz.prog.globalNamed name = some g) (ht : (Tryz.prog.globals[g]?).map (·.type) = some 95) (hm : (name, d) ∈ laidL) :
    g < W.heap.size ∧ ∃ b, W.heap[g]? = some b ∧ cell0 (fun v => v = .nilIface ∨ ∃ t p, v = .iface t p) b := by
  obtain ⟨g', t', cs, fuel, p, hg, hty, hvar, hd⟩ := Lib.laidMet.reads h hm
  obtain rfl := Option.some.inj (hn.symm.trans hg)
  obtain rfl := Option.some.inj (ht.symm.trans hty)
  obtain ⟨v, e, hv⟩ := ifc_trod Tryz.underlying95 hd
  obtain ⟨t, f, hb⟩ := block_of hn hvar
  refine ⟨(Array.getElem?_eq_some_iff.1 hb).1, _, hb, v, ?_, hv⟩
  rw [← Array.getElem?_toList, e]; rfl
theorem glob_of {W : World} (hL : laidMetH Tryz.prog laidL W) (hsh : W.ShapedOpen Tryz.prog) : GlobB (Go.Abs.base W) := by
  rw [MakeChecks.laidMetH_plain _ _ _ (by kernel_rfl)] at hL
  refine ⟨(fun _ _ h => nomatch h), fun g p hg => ?_⟩
  match g, hg with
  | 0, hg =>
    cases hg
    obtain ⟨m, hm⟩ := cell_of_shapedOpen_int (zero := #[.int .i64 0]) (t := 3) (k := .i64) (g := 0) hsh (of_decide_eq_true (by kernel_rfl)) (by kernel_rfl) rfl (by kernel_rfl) (by kernel_rfl) Tryz.underlying3
    unfold World.cell? at hm
    cases hb : W.heap[0]? with
    | none => rw [hb] at hm; simp at hm
    | some ob =>
      refine ⟨(Array.getElem?_eq_some_iff.1 hb).1, ob, rfl, ?_⟩
      rw [hb] at hm
      cases ob with
      | cells cs t f => exact ⟨_, by simpa using hm, m, rfl⟩
      | _ => simp at hm
  | 1, hg => cases hg; exact err_of hL (name := "strconv.ErrSyntax") (by kernel_rfl) (by kernel_rfl) ((.tail _ (.tail _ (.tail _ (.tail _ (.head _))))))
  | 2, hg => cases hg; exact err_of hL (name := "strconv.ErrRange") (by kernel_rfl) (by kernel_rfl) ((.tail _ (.tail _ (.tail _ (.head _)))))
  | 3, hg =>
    cases hg
    obtain ⟨g', t', cs, fuel, p, hg', hty, hvar, hd⟩ := Lib.laidMet.reads hL (n := "internal/strconv.uint64pow10") ((.tail _ (.tail _ (.head _))))
    have hn : Tryz.prog.globalNamed "internal/strconv.uint64pow10" = some 3 := by kernel_rfl
    obtain rfl := Option.some.inj (hn.symm.trans hg')
    have hT : (Tryz.prog.globals[3]?).map (·.type) = some 155 := by kernel_rfl
    obtain rfl := Option.some.inj (hT.symm.trans hty)
    obtain ⟨t, f, hb⟩ := block_of hn hvar
    refine ⟨(Array.getElem?_eq_some_iff.1 hb).1, _, hb, ?_⟩
    have hd' : DataW.trod (fun _ => ()) Tryz.prog W 0 (fun _ => true) false fuel 155 cs.toList = some (Lib.tabData .u64 pow10T, p) := hd
    have e := Lib.cells_of_tab Tryz.underlying155 Tryz.underlying115 (by kernel_rfl) (by kernel_rfl) hd'
    show cs = _
    rw [← e]
theorem door_met (os : Os) (args : Array Value) : laidMetH Tryz.prog laidL ((World.doorLaid Tryz.prog 400 os).forCall (fun _ _ => 0) ⟨#[], args, []⟩).memory :=
  laidMetH_of_parts3 (fuel := 8) (laidMet_of_run' 8 (by kernel_rfl) (by kernel_rfl)) (by kernel_rfl) (by kernel_rfl)
end Go.Proofs.YtnendldalcpgeaaGreatDoor


set_option maxRecDepth 100000
set_option maxHeartbeats 4000000
namespace Go.Abs
open Go.Proofs Go.Wire Go.RowKit Go.Jr Go.Rg
theorem fin_kept {S : V → Prop} {X : V} (h : ∀ r, r.fz.nrm = X → S r) {c1 c2 : C} {l : Int} {b t : Bool} {secs : List Txt} {pend : List Wr} (h1 : c1.norm = lstC 1 (strs secs)) (h2 : c2.norm = lstC 2 (wrs pend)) (hX : X = .tup [dV ⟨secs, pend, l, b⟩, .bool t]) : S (.tup [.agg [c1, c2, .int .i64 l, .bool b], .k (.c (.bool t))]) := by
  refine h _ ?_
  simp only [V.fz, V.nrm, V.fzL, V.nrmL, Abs.K.fz, Abs.K.nrm, C.normRow, h1, h2, norm_int, norm_bool, hX, dV, encD]
theorem v30 (l : List Txt) (hl : l.length ≤ 1000000) (hs : ∀ s ∈ l, s.length ≤ 1000000000) {a : Disk} (ha : formatJ (newD 120) = (a, 0)) (hR : Right a) :
    Spec Tryz.prog 30 [lst 1 (strs l)] (fun r => r = .tup [dV (repairR a l 0).1.1, .bool (decide ((repairR a l 0).2 = 0))]) := by
  refine Spec.of_awlP hf30 okf30 (by simp) fun S hS => ?_
  have c11 := v11 120
  rw [show newR 120 = (a, 0) by rw [← ha]; rfl] at c11
  have c25 := v25 a hR l hl hs
  generalize repairR a l 0 = Y at hS c25
  obtain ⟨⟨⟨ys, yp, yl, yd⟩, n⟩, e⟩ := Y
  simp only [resD, resR, dV, encD] at c11 c25
  simp only [normRows_strs, normRows_wrs, Qs, Nat.reduceBEq, uu f30.eq_1, vv f30r11.eq_1, uu f30b12.eq_1, vv f30r13.eq_1, uu f30b14.eq_1]
  refine call_r c11 ?_
  simp only [normRows_strs, normRows_wrs, Qs, if_true, bne_iff_ne, ne_eq, List.append_nil, Nat.reduceAdd, Nat.reduceMul, Nat.reduceEqDiff, Nat.reduceBEq, Int.reduceBNe, vv f30r3.eq_1, uu f30b4.eq_1, uu f30b7.eq_1, vv f30r8.eq_1, uu f30b9.eq_1, uu f30b10.eq_1]
  refine call_r c25 ?_
  simp only [normRows_strs, normRows_wrs, Qs, if_true, List.append_nil, List.nodup_nil, Nat.reduceAdd, Nat.reduceMul, Nat.reduceLT, Nat.reduceBEq, vv f30r1.eq_1, uu f30b2.eq_1]
  refine fin_kept hS (norm_s _) (norm_w _) ?_
  by_cases he : e = 0 <;> simp [he, dV, encD]
end Go.Abs


set_option maxRecDepth 100000
set_option maxHeartbeats 4000000
namespace Go.Abs
open Go.Proofs Go.Wire Go.RowKit Go.Jr
structure Whole (n : Nat) (d : Disk) (l : List Txt) : Prop where
  ex : ∃ c m, Jr.Inv d l c ∧ m ≤ (wN wS l).length ∧ d.secs.getD (1 - c) [] = hdr m
  secs : d.secs.length = n
  left : d.left = -1
theorem Whole.right {n : Nat} {d : Disk} {l : List Txt} (h : Whole n d l) : Right d := by
  obtain ⟨c, m, hi, _⟩ := h.ex
  exact hi.right
end Go.Abs


set_option maxRecDepth 100000
namespace Go.Abs
open Go.Proofs Go.Wire Go.RowKit Go.Jr Go.Rg
theorem wI_40 {n : Nat} (h : n ≤ 40) : (wI n).length ≤ 4 := by
  have h1 : (List.range 41).all (fun n => decide ((wI n).length ≤ 4)) = true := by kernel_rfl
  exact of_decide_eq_true (List.all_eq_true.1 h1 n (List.mem_range.2 (by omega)))
theorem wS_40 {s : Txt} (h : s.length ≤ 40) : (wS s).length ≤ 44 := by
  have := wI_40 h
  rw [wS, List.length_append]; omega
theorem wN_40 : ∀ (l : List Txt), (∀ s ∈ l, s.length ≤ 40) → (wN wS l).length ≤ 44 * l.length
  | [], _ => by simp [wN]
  | s :: l, h => by
    have h1 := wN_40 l fun x hx => h x (List.mem_cons_of_mem _ hx)
    have h3 := wS_40 (h s List.mem_cons_self)
    have e := wN_app wS [s] l
    rw [List.singleton_append, wN_one] at e
    rw [e, List.length_append, List.length_cons]
    omega
def addU : List Txt → List Txt → List Txt
  | m, [] => m
  | m, s :: l => if s ∈ m then addU m l else addU (m ++ [s]) l
theorem addU_mem : ∀ (l m : List Txt) (x : Txt), x ∈ addU m l ↔ x ∈ m ∨ x ∈ l
  | [], m, x => by simp [addU]
  | s :: l, m, x => by
    rw [addU]
    split
    · rename_i h; rw [addU_mem l m x]; simp only [List.mem_cons]
      constructor
      · rintro (h1 | h1)
        · exact .inl h1
        · exact .inr (.inr h1)
      · rintro (h1 | rfl | h1)
        · exact .inl h1
        · exact .inl h
        · exact .inr h1
    · rw [addU_mem l (m ++ [s]) x]; simp [or_assoc]
theorem addU_le : ∀ (l m : List Txt), m.length ≤ (addU m l).length ∧ (addU m l).length ≤ m.length + l.length
  | [], m => by simp [addU]
  | s :: l, m => by
    rw [addU]
    split
    · have := addU_le l m; simp; omega
    · have := addU_le l (m ++ [s]); simp at this ⊢; omega
theorem Whole.take_new {n : Nat} {d : Disk} {m : List Txt} {s : Txt} (h : Whole n d m) (hs : s ∉ m) : takeR d s = appendJ d s := by
  obtain ⟨⟨c, _, hi, _⟩, _⟩ := h
  exact Abs.take_new hi hs
theorem Whole.take_old {n : Nat} {d : Disk} {m : List Txt} {s : Txt} (h : Whole n d m) (hs : s ∈ m) : takeR d s = (d, 5) := by
  obtain ⟨⟨c, _, hi, _⟩, _⟩ := h
  exact Abs.take_old hi hs
end Go.Abs


set_option maxRecDepth 100000
namespace Go.Abs
open Go.Proofs Go.Wire Go.RowKit Go.Jr Go.Rg
structure Hath (n : Nat) (d : Disk) (m : List Txt) : Prop where
  ex : ∃ c, Jr.Inv d m c
  secs : d.secs.length = n
  left : d.left = -1
theorem Hath.right {n : Nat} {d : Disk} {m : List Txt} (h : Hath n d m) : Right d := let ⟨_, hi⟩ := h.ex; hi.right
theorem Hath.read {n : Nat} {d : Disk} {m : List Txt} (h : Hath n d m) : (readJ d).1.list = m ∧ (readJ d).2 = 0 := by
  obtain ⟨c, hi⟩ := h.ex
  rw [hi.read]; exact ⟨rfl, rfl⟩
theorem repair_hath : ∀ (l : List Txt) {n : Nat} {d : Disk} {m : List Txt} {k : Nat}, Hath n d m → (∀ s ∈ m, s.length ≤ 40) → (∀ s ∈ l, s.length ≤ 40) → 44 * (addU m l).length ≤ 16 * (n - 2) → m.length + l.length < 500 →
    ∃ d', repairR d l k = ((d', k + ((addU m l).length - m.length)), 0) ∧ Hath n d' (addU m l)
  | [], _, d, m, k, h, _, _, _, _ => ⟨d, by simp [repairR, addU], h⟩
  | s :: l, n, d, m, k, h, hm, hl, hf, h5 => by
    have hs := hl s List.mem_cons_self
    have hl' := fun x hx => hl x (List.mem_cons_of_mem s hx)
    simp only [List.length_cons] at h5
    obtain ⟨c, hi⟩ := h.ex
    rw [addU] at hf ⊢
    by_cases hc : s ∈ m
    · rw [if_pos hc] at hf ⊢
      rw [rep_old (take_old hi hc)]
      exact repair_hath l h hm hl' hf (by omega)
    · rw [if_neg hc] at hf ⊢
      have hN := wN_40 m hm
      have hS := wS_40 hs
      have hle := (addU_le l (m ++ [s])).1
      rw [List.length_append, List.length_singleton] at hle
      obtain ⟨d1, e, hi1, hs1, hl1, _⟩ := append_ok hi (s := s) (by omega) (by omega) (by rw [List.length_append, h.secs]; omega) (.inl h.left)
      have hw : Hath n d1 (m ++ [s]) := ⟨⟨_, hi1⟩, hs1.trans h.secs, hl1 h.left⟩
      rw [rep_new ((take_new hi hc).trans e)]
      obtain ⟨d', e1, h1⟩ := repair_hath l (k := k + 1) hw (by intro x hx; rcases List.mem_append.1 hx with hx | hx; exact hm x hx; rw [List.mem_singleton.1 hx]; exact hs) hl' hf (by simp; omega)
      refine ⟨d', ?_, h1⟩
      rw [e1]
      congr 2
      simp
      omega
theorem addU_disj : ∀ (l m : List Txt), l.Nodup → (∀ s ∈ l, s ∉ m) → addU m l = m ++ l
  | [], m, _, _ => by simp [addU]
  | s :: l, m, hn, hd => by
    obtain ⟨h1, h2⟩ := List.nodup_cons.1 hn
    rw [addU, if_neg (hd s List.mem_cons_self), addU_disj l (m ++ [s]) h2 (fun x hx => by
      rw [List.mem_append, List.mem_singleton]
      rintro (h | rfl)
      · exact hd x (List.mem_cons_of_mem _ hx) h
      · exact h1 hx)]
    simp
theorem agreeF_sub {logs : List (List Txt)} {s : Txt} (h : s ∈ agreeF logs) : s ∈ logs.flatten := cnt_pos (by have := (agreeF_mem logs s).1 h; omega)
theorem agree3 (a b c : List Txt) (s : Txt) : s ∈ agreeF [a, b, c] ↔ (s ∈ a ∧ s ∈ b) ∨ (s ∈ a ∧ s ∈ c) ∨ (s ∈ b ∧ s ∈ c) := by
  rw [agreeF_mem, cnt_cons, cnt_cons, cnt_cons]
  have h0 : cnt [] s = 0 := rfl
  rw [h0]
  by_cases h1 : s ∈ a <;> by_cases h2 : s ∈ b <;> by_cases h3 : s ∈ c <;> simp [h1, h2, h3]
theorem asc_nodup {l : List Txt} (h : Asc l) : l.Nodup := h.imp fun {a b} hab (e : a = b) => lt_irr a (by rw [← e] at hab; exact hab)
theorem asc_len : ∀ {l : List Txt} {m : List Txt}, l.Nodup → (∀ s ∈ l, s ∈ m) → l.length ≤ m.length
  | [], _, _, _ => Nat.zero_le _
  | a :: l, m, hn, h => by
    obtain ⟨h1, h2⟩ := List.nodup_cons.1 hn
    have ha := h a List.mem_cons_self
    have := asc_len (m := m.erase a) h2 fun s hs => by
      rw [List.mem_erase_of_ne]
      · exact h s (List.mem_cons_of_mem _ hs)
      · rintro rfl; exact h1 hs
    have h4 := List.length_erase_of_mem ha
    have h5 := List.length_pos_of_mem ha
    simp only [List.length_cons]
    omega
theorem lackX_mem {logs : List (List Txt)} (hR : rightL logs = true) {i : Nat} {s : Txt} : s ∈ lackX logs i ↔ s ∈ agreeF logs ∧ s ∉ logs.getD i [] := by
  unfold lackX agreeX
  rw [if_pos hR, List.mem_filter, decide_eq_true_eq]
theorem lackX_nodup (logs : List (List Txt)) (hR : rightL logs = true) (i : Nat) : (lackX logs i).Nodup := by
  unfold lackX agreeX
  rw [if_pos hR]
  exact (asc_nodup (agreeF_asc logs)).sublist List.filter_sublist
def healed (logs : List (List Txt)) (i : Nat) : List Txt := addU [] (logs.getD i []) ++ lackX logs i
theorem healed_mem {logs : List (List Txt)} (hR : rightL logs = true) {i : Nat} {s : Txt} : s ∈ healed logs i ↔ s ∈ logs.getD i [] ∨ s ∈ agreeF logs := by
  unfold healed
  rw [List.mem_append, addU_mem, lackX_mem hR]
  generalize logs.getD i [] = m
  by_cases h : s ∈ m <;> simp [h]
theorem healed_eq {logs : List (List Txt)} (hR : rightL logs = true) (i : Nat) : addU (addU [] (logs.getD i [])) (lackX logs i) = healed logs i := by
  unfold healed
  refine addU_disj _ _ (lackX_nodup logs hR i) fun s hs => ?_
  rw [addU_mem]
  have := ((lackX_mem hR).1 hs).2
  simpa using this
section
variable (a b c : List Txt)
theorem healed_agree (hR : rightL [a, b, c] = true) : agreeF [healed [a, b, c] 0, healed [a, b, c] 1, healed [a, b, c] 2] = agreeF [a, b, c] := by
  symm
  refine agreeF_is (agreeF_asc _) fun s => ?_
  rw [← agreeF_mem, agree3 (healed [a, b, c] 0), healed_mem hR, healed_mem hR, healed_mem hR]
  have e := agree3 a b c s
  simp only [List.getD_cons_zero, List.getD_cons_succ]
  by_cases h : s ∈ agreeF [a, b, c]
  · simp [h]
  · simp only [h, false_iff, or_false] at e ⊢
    exact e
theorem healed_lacks (hR : rightL [a, b, c] = true) (hR2 : rightL [healed [a, b, c] 0, healed [a, b, c] 1, healed [a, b, c] 2] = true) {i : Nat} (hi : i < 3) :
    lackX [healed [a, b, c] 0, healed [a, b, c] 1, healed [a, b, c] 2] i = [] := by
  refine List.eq_nil_iff_forall_not_mem.2 fun s hs => ?_
  obtain ⟨h1, h2⟩ := (lackX_mem hR2).1 hs
  rw [healed_agree a b c hR] at h1
  apply h2
  have : [healed [a, b, c] 0, healed [a, b, c] 1, healed [a, b, c] 2].getD i [] = healed [a, b, c] i := by
    match i, hi with
    | 0, _ => rfl
    | 1, _ => rfl
    | 2, _ => rfl
  rw [this, healed_mem hR]
  exact .inr h1
theorem agree_small {a b c : List Txt} (ha : a.length ≤ 8) (hb : b.length ≤ 8) (hc : c.length ≤ 8) : (agreeF [a, b, c]).length ≤ 24 := by
  have := asc_len (m := a ++ (b ++ c)) (asc_nodup (agreeF_asc [a, b, c])) fun s hs => by
    have := agreeF_sub hs
    simpa using this
  simp at this
  omega
end
end Go.Abs


set_option maxRecDepth 100000
set_option maxHeartbeats 4000000
namespace Go.Abs
open Go.Proofs Go.Wire Go.RowKit Go.Jr Go.Rg
end Go.Abs


set_option maxRecDepth 100000
set_option maxHeartbeats 4000000
namespace Go.Abs
open Go.Proofs Go.Wire Go.RowKit Go.Jr Go.Rg
theorem lls3' (a b c : List Txt) : ([[lstC 1 (strs a)], [lstC 1 (strs b)], [lstC 1 (strs c)]] : List (List C)) = lls [a, b, c] := rfl
theorem lls_snoc (l : List (List Txt)) (x : List Txt) : lls l ++ [[lstC 1 (strs x)]] = lls (l ++ [x]) := by simp [lls, encLs]
theorem l6 (a b c : List Txt) : Spec Tryz.prog 6 [lst 1 (strs a), lst 1 (strs b), lst 1 (strs c)] (fun r => r = .bool true) := by
  refine Spec.of_awlS hf6 okf6 (by simp) fun S hS => ?_
  simp only [Qs, Nat.reduceAdd, uu f6.eq_1, vv f6r85.eq_1, uu f6b86.eq_1, vv f6r87.eq_1, uu f6b88.eq_1]
  refine call_s l8 ?_
  simp only [lls3', normRows_lls, Qs, q_List_set_cons_succ, forall_eq_or_imp, forall_eq, List.mem_cons, Nat.reduceLT, Nat.reduceBEq, List.not_mem_nil, uu f6b79.eq_1, vv f6r80.eq_1, uu f6b81.eq_1, uu f6b82.eq_1, vv f6r83.eq_1, uu f6b84.eq_1]
  rw [uf6l78]
  generalize hL : [a, b, c] = L
  have hL3 : L.length = 3 := by rw [← hL]; rfl
  refine awl_loop (fun i : Nat => [(7, .bool true), (8, .k (.own 25)), (9, .int .i64 i)]) (fun _ => [(25, .arr 22 1 (some false) (lls L))])
    (fun i => i ≤ 3 ∧ ∀ x ∈ L.take i, x.length ≤ 8 ∧ ∀ s ∈ x, s.length ≤ 40) (fun i => 3 - i) 0 rfl rfl ⟨Nat.zero_le _, by simp⟩ ?_
  rintro i ⟨hi, hd⟩
  by_cases hlt : i < L.length
  · have c1 : (i : Int) < 3 := by omega
    have c4 : IntKind.i64.wrap ((i : Int) + 1) = (i : Int) + 1 := wrap_in (by omega) (by omega)
    by_cases h8 : (L[i].length : Int) > 8
    · simp only [c1, h8, hL3, lls_len, lls_at hlt, strs_len, normRows_strs, Qs, if_true, List.nodup_nil, Nat.reduceBEq, vv f6r49.eq_1, vv f6r66.eq_1, uu f6b67.eq_1, uu f6b68.eq_1, vv f6r69.eq_1, uu f6b70.eq_1, uu f6b71.eq_1, uu f6b72.eq_1, uu f6b73.eq_1, uu f6b74.eq_1, vv f6r75.eq_1, uu f6b76.eq_1, uu f6b77.eq_1]
      exact hS
    · simp only [c1, h8, hL3, lls_len, lls_at hlt, strs_len, normRows_strs, Qs, if_true, Nat.reduceBEq, vv f6r49.eq_1, uu f6b63.eq_1, vv f6r64.eq_1, uu f6b65.eq_1, uu f6b68.eq_1, vv f6r69.eq_1, uu f6b70.eq_1, uu f6b71.eq_1, uu f6b72.eq_1, uu f6b73.eq_1, uu f6b74.eq_1, vv f6r75.eq_1, uu f6b76.eq_1, uu f6b77.eq_1]
      rw [uf6l62]
      refine awl_loop (fun k : Nat => [(7, .bool true), (8, .k (.own 25)), (9, .int .i64 i), (10, .int .i64 k)]) (fun _ => [(25, .arr 22 1 (some false) (lls L))])
        (fun k => k ≤ L[i].length ∧ ∀ s ∈ L[i].take k, s.length ≤ 40) (fun k => L[i].length - k) 0 rfl rfl ⟨Nat.zero_le _, by simp⟩ ?_
      rintro k ⟨hk, hs⟩
      by_cases hkt : k < L[i].length
      · have d1 : (k : Int) < L[i].length := by omega
        have d4 : IntKind.i64.wrap ((k : Int) + 1) = (k : Int) + 1 := wrap_in (by omega) (by omega)
        by_cases h40 : (L[i][k].length : Int) > 40
        · simp only [c1, d1, h40, hL3, lls_len, lls_at hlt, strs_len, strs_at hkt, normRows_strs, Qs, if_true, List.nodup_nil, Nat.reduceBEq, vv f6r50.eq_1, vv f6r51.eq_1, uu f6b52.eq_1, uu f6b53.eq_1, vv f6r54.eq_1, uu f6b55.eq_1, uu f6b56.eq_1, uu f6b57.eq_1, uu f6b58.eq_1, vv f6r59.eq_1, uu f6b60.eq_1, uu f6b61.eq_1]
          exact hS
        · simp only [c1, d1, d4, h40, hL3, lls_len, lls_at hlt, strs_len, strs_at hkt, normRows_strs, Qs, if_true, Nat.reduceBEq, vv f6r50.eq_1, uu f6b53.eq_1, vv f6r54.eq_1, uu f6b55.eq_1, uu f6b56.eq_1, uu f6b57.eq_1, uu f6b58.eq_1, vv f6r59.eq_1, uu f6b60.eq_1, uu f6b61.eq_1]
          refine Next.intro (k + 1) rfl rfl ⟨by omega, fun s hm => ?_⟩ (by omega)
          rw [List.take_succ_eq_append_getElem hkt] at hm
          rcases List.mem_append.1 hm with hm | hm
          · exact hs s hm
          · rw [List.mem_singleton.1 hm]; omega
      · obtain rfl : k = L[i].length := by omega
        have d1 : ¬ (L[i].length : Int) < L[i].length := by omega
        rw [List.take_length] at hs
        simp only [c1, c4, d1, hL3, lls_len, lls_at hlt, strs_len, normRows_strs, Qs, if_true, if_false, reduceCtorEq, Nat.reduceBEq, uu f6b58.eq_1, vv f6r59.eq_1, uu f6b60.eq_1, uu f6b61.eq_1]
        refine Next.intro (i + 1) rfl rfl ⟨by omega, fun x hx => ?_⟩ (by omega)
        rw [List.take_succ_eq_append_getElem hlt] at hx
        rcases List.mem_append.1 hx with hx | hx
        · exact hd x hx
        · rw [List.mem_singleton.1 hx]; exact ⟨by omega, hs⟩
  · obtain rfl : i = 3 := by omega
    have c1 : ¬ (((3 : Nat) : Int) < 3) := by decide
    rw [List.take_of_length_le (by omega)] at hd
    have hR : rightL L = true := by
      unfold rightL
      rw [hL3]
      simp only [Bool.and_eq_true, Bool.not_eq_true', List.any_eq_false]
      exact ⟨by decide, fun x hx => by have := (hd x hx).1; simp [longB]; omega⟩
    have hmax : ∀ x ∈ L, ∀ s ∈ x, s.length ≤ maxLen := fun x hx s hs => Nat.le_trans ((hd x hx).2 s hs) (by decide)
    have c21 := v21 L hmax hR
    have hq24 : (agreeF L).length ≤ 24 := by
      rw [← hL] at hd ⊢
      exact agree_small (hd a (by simp)).1 (hd b (by simp)).1 (hd c (by simp)).1
    have hq40 : ∀ s ∈ agreeF L, s.length ≤ 40 := fun s hs => by
      obtain ⟨x, hx, hsx⟩ := List.mem_flatten.1 (agreeF_sub hs)
      exact (hd x hx).2 s hsx
    have hagree : agreeF [healed L 0, healed L 1, healed L 2] = agreeF L := by rw [← hL] at hR ⊢; exact healed_agree a b c hR
    simp only [c1, lls_len, Qs, if_true, Nat.reduceBEq, Int.reduceLT, vv f6r47.eq_1, uu f6b48.eq_1, uu f6b74.eq_1, vv f6r75.eq_1, uu f6b76.eq_1, uu f6b77.eq_1]
    refine call_o 25 (by simp [look, lookT]) c21 (by simp [lendL, lendO, lookO, V.isPure]) (by simp [lendL, lendO, lookO, V.norm, norm_list, lst, normRows_lls]) (by simp [V.toks, Abs.K.toks]) (by simp [lookO, plainO]) rfl ?_
    simp only [normRows_lls, normRows_strs, Qs, q_lookT_eq_1, q_regN_eq_1, q_V_reg_eq_1, q_freesL_eq_2, q_addsL_eq_2, if_true, or_true, bne_iff_ne, ne_eq, Nat.reduceAdd, Nat.reduceEqDiff, Nat.reduceBEq, uu f6b41.eq_1, vv f6r42.eq_1, uu f6b43.eq_1, uu f6b44.eq_1, vv f6r45.eq_1, uu f6b46.eq_1]
    rw [uf6l40]
    have hH : ∀ i : Nat, i < 3 → [healed L 0, healed L 1, healed L 2].take (i + 1) = [healed L 0, healed L 1, healed L 2].take i ++ [healed L i] := by
      intro i hi
      match i, hi with
      | 0, _ => rfl
      | 1, _ => rfl
      | 2, _ => rfl
    generalize hN : [healed L 0, healed L 1, healed L 2] = N at hH hagree
    refine awl_loop (fun i : Nat => [(7, .bool true), (8, .k (.c (.list 1 (some false) (lls L)))), (11, .k (.own 57)), (12, .k (.own 12)), (13, .int .i64 i)])
      (fun i => [(12, .arr 22 1 (nlApp (some true) (lls (N.take i))) (lls (N.take i))), (57, .arr 9 1 none (strs (agreeF L)))])
      (fun i => i ≤ 3) (fun i => 3 - i) 0 rfl rfl (Nat.zero_le _) ?_
    intro i hi
    by_cases hlt : i < L.length
    · have c1 : (i : Int) < 3 := by omega
      have hi3 : i < 3 := by omega
      have c4 : IntKind.i64.wrap ((i : Int) + 1) = ((i + 1 : Nat) : Int) := by rw [wrap_in (by omega) (by omega)]; omega
      have hLi : L.getD i [] = L[i] := by simp [List.getD, hlt]
      obtain ⟨h8, h40⟩ := hd _ (List.getElem_mem hlt)
      obtain ⟨a0, ha, ia, sa, la, oa⟩ := format_ok (n := 120) (by decide) (by decide)
      have ha0 : Hath 120 a0 [] := ⟨⟨0, ia⟩, sa, la⟩
      have c30 := v30 L[i] (by omega) (fun s hs => by have := h40 s hs; omega) ha ia.right
      have u1 := addU_le L[i] []
      obtain ⟨d1, e1, hd1⟩ := repair_hath L[i] (k := 0) ha0 (by simp) h40 (by simp only [List.length_nil] at u1; omega) (by simp; omega)
      rw [e1] at c30
      have c23 := v23 L hmax hR i hlt
      have hlk : (lackX L i).length ≤ 24 := by
        have := asc_len (m := agreeF L) (lackX_nodup L hR i) fun s hs => ((lackX_mem hR).1 hs).1
        omega
      have hlk40 : ∀ s ∈ lackX L i, s.length ≤ 40 := fun s hs => hq40 s ((lackX_mem hR).1 hs).1
      have he := healed_eq hR i
      rw [hLi] at he
      have hhl : (healed L i).length = (addU [] L[i]).length + (lackX L i).length := by
        unfold healed; rw [hLi, List.length_append]
      simp only [List.length_nil] at u1
      obtain ⟨d2, e2, hd2⟩ := repair_hath (lackX L i) (k := 0) hd1 (fun s hs => by
        rcases (addU_mem _ _ _).1 hs with h | h
        · exact absurd h (by simp)
        · exact h40 s h) hlk40 (by rw [he, hhl]; omega) (by omega)
      rw [he] at e2 hd2
      have c25 := v25 d1 hd1.right (lackX L i) (by omega) (fun s hs => by have := hlk40 s hs; omega)
      rw [e2] at c25
      have c18 := v18 _ hd2.right
      rw [hd2.read.1, hd2.read.2] at c18
      have hn : 0 + ((healed L i).length - (addU [] L[i]).length) = (lackX L i).length := by omega
      rw [hn] at c25
      have hmem : ∀ s ∈ agreeF L, s ∈ healed L i := fun s hs => (healed_mem hR).2 (.inr hs)
      simp only [resD, resR, dV, encD] at c30 c25 c18
      simp only [c1, lls_len, lls_at hlt, normRows_lls, normRows_strs, normRows_wrs, Qs, q_vIaddr_eq_1, if_true, Nat.reduceBEq, vv f6r3.eq_1, vv f6r32.eq_1, uu f6b33.eq_1, uu f6b34.eq_1, uu f6b35.eq_1, uu f6b36.eq_1, vv f6r37.eq_1, uu f6b38.eq_1, uu f6b39.eq_1]
      refine ⟨by omega, call_r c30 ?_⟩
      simp only [c1, lls_len, lls_at hlt, normRows_lls, normRows_strs, normRows_wrs, Qs, if_true, bne_iff_ne, ne_eq, List.append_nil, Nat.reduceAdd, Nat.reduceMul, Nat.reduceEqDiff, Nat.reduceBEq, vv f6r30o0.eq_1, vv f6r30o1.eq_1, vv f6r30o2.eq_1, vv f6r30o3.eq_1, vv f6r30o4.eq_1, vv f6r30o5.eq_1, vv f6r30o6.eq_1, vv f6r30o7.eq_1, vv f6r30o8.eq_1, vv f6r30o9.eq_1, vv f6r30o10.eq_1, vv f6r30o11.eq_1, utf6r30, uu f6b31.eq_1]
      refine callQ_l c23 ?_ (ha := by simp [lendL, lendO, lookO, V.norm, norm_list, lst, normRows_lls])
      simp only [V.fz, Abs.K.fz, c1, lls_len, lls_at hlt, normRows_lls, normRows_strs, normRows_wrs, Qs, Nat.reduceBEq]
      refine callQ_R c25 ?_ rfl (by simp [lendL, V.norm, C.normRow, dV, encD, norm_list, norm_lst, lst, normRows_strs, normRows_wrs]) rfl
      simp only [V.fz, Abs.K.fz, c1, lls_len, lls_at hlt, normRows_lls, normRows_strs, normRows_wrs, Qs, q_exLQ_eq_28, q_V_fzL_eq_1, q_V_fzL_eq_2, if_true, List.append_nil, Nat.reduceAdd, Nat.reduceBEq, vv f6r28.eq_1, uu f6b29.eq_1]
      refine call_r c18 ?_
      simp only [V.fz, Abs.K.fz, c1, lls_len, lls_at hlt, normRows_lls, normRows_strs, normRows_wrs, Qs, if_true, if_false, List.append_nil, Nat.reduceAdd, Nat.reduceMul, Nat.reduceBEq, Int.reduceBNe, vv f6r25.eq_1, uu f6b26.eq_1, uu f6b27.eq_1]
      refine call_l c23 ?_ (ha := by simp [lendL, lendO, lookO, V.norm, norm_list, lst, normRows_lls])
      have b99 : (((lackX L i).length : Int) != ((lackX L i).length : Int)) = false := by simp
      simp only [b99, c1, lls_len, lls_at hlt, strs_len, normRows_lls, normRows_strs, normRows_wrs, Qs, q_vLen_eq_2, q_lenO_eq_1, if_true, if_false, Nat.reduceBEq, vv f6r4.eq_1, uu f6b18.eq_1, vv f6r19.eq_1, uu f6b20.eq_1, uu f6b21.eq_1, uu f6b24.eq_1]
      rw [uf6l17]
      have hHi3 := hH i hi3
      generalize healed L i = h at *
      have hle : (lls (N.take i)).length ≤ 3 := by rw [lls_len, List.length_take]; omega
      have hnl : ∀ (o : List (List Txt)) (x : List Txt), nlApp (some true) (lls (o ++ [x])) = some false := fun o x => by cases o <;> rfl
      refine awl_loop (fun k : Nat => [(7, .bool true), (8, .k (.c (.list 1 (some false) (lls L)))), (11, .k (.own 57)), (12, .k (.own 12)), (13, .int .i64 i), (18, lst 1 (strs h)), (20, .int .i64 k)])
        (fun _ => [(12, .arr 22 1 (nlApp (some true) (lls (N.take i))) (lls (N.take i))), (57, .arr 9 1 none (strs (agreeF L)))])
        (fun k => k ≤ (agreeF L).length) (fun k => (agreeF L).length - k) 0 rfl rfl (Nat.zero_le _) ?_
      intro k hk
      by_cases hkt : k < (agreeF L).length
      · have d1 : (k : Int) < (agreeF L).length := by omega
        have d4 : IntKind.i64.wrap ((k : Int) + 1) = (k : Int) + 1 := wrap_in (by omega) (by omega)
        have k1 := v27 h (agreeF L)[k]
        rw [decide_eq_true (hmem _ (List.getElem_mem hkt))] at k1
        simp only [d1, strs_len, strs_at hkt, normRows_strs, Qs, q_vLen_eq_2, q_lenO_eq_1, if_true, Nat.reduceBEq, vv f6r5.eq_1, vv f6r9.eq_1, uu f6b10.eq_1, uu f6b11.eq_1, uu f6b12.eq_1, uu f6b13.eq_1, vv f6r14.eq_1, uu f6b15.eq_1, uu f6b16.eq_1]
        refine call_s k1 ?_
        simp only [d4, strs_len, strs_at hkt, normRows_strs, Qs, if_true, Nat.reduceBEq, uu f6b8.eq_1]
        exact Next.intro (k + 1) rfl rfl (by omega) (by omega)
      · obtain rfl : k = (agreeF L).length := by omega
        have d1 : ¬ ((agreeF L).length : Int) < (agreeF L).length := by omega
        simp only [d1, c4, strs_len, lls_snoc, normRows_lls, normRows_strs, Qs, q_vLen_eq_2, q_lenO_eq_1, if_true, if_false, forall_eq, bne_iff_ne, ne_eq, List.mem_cons, Nat.reduceEqDiff, Nat.reduceLeDiff, Nat.reduceLT, Nat.reduceBEq, List.not_mem_nil, uu f6b13.eq_1, vv f6r14.eq_1, uu f6b15.eq_1, uu f6b16.eq_1]
        exact ⟨by omega, by omega, Next.intro (i + 1) rfl (by simp only [hHi3, hnl]; rfl) (by omega) (by omega)⟩
    · obtain rfl : i = 3 := by omega
      have c1 : ¬ (((3 : Nat) : Int) < 3) := by decide
      have hN3 : N.length = 3 := by rw [← hN]; rfl
      have hNm : ∀ x ∈ N, ∃ i, i < 3 ∧ x = healed L i := by
        intro x hx
        rw [← hN] at hx
        simp only [List.mem_cons, List.not_mem_nil, or_false] at hx
        rcases hx with rfl | rfl | rfl
        · exact ⟨0, by decide, rfl⟩
        · exact ⟨1, by decide, rfl⟩
        · exact ⟨2, by decide, rfl⟩
      have hLd : ∀ i, i < 3 → L.getD i [] ∈ L := fun i hi => by simp [List.getD, show i < L.length by omega]
      have hNl : ∀ x ∈ N, x.length ≤ 32 ∧ ∀ s ∈ x, s.length ≤ 40 := by
        intro x hx
        obtain ⟨i, hi, rfl⟩ := hNm x hx
        have h1 := addU_le (L.getD i []) []
        have h2 := (hd _ (hLd i hi)).1
        have h3 := asc_len (m := agreeF L) (lackX_nodup L hR i) fun s hs => ((lackX_mem hR).1 hs).1
        simp only [List.length_nil] at h1
        refine ⟨by unfold healed; rw [List.length_append]; omega, fun s hs => ?_⟩
        rcases (healed_mem hR).1 hs with h | h
        · exact (hd _ (hLd i hi)).2 s h
        · exact hq40 s h
      have hR2 : rightL N = true := by
        unfold rightL
        rw [hN3]
        simp only [Bool.and_eq_true, Bool.not_eq_true', List.any_eq_false]
        exact ⟨by decide, fun x hx => by have := (hNl x hx).1; simp [longB]; omega⟩
      have hmax2 : ∀ x ∈ N, ∀ s ∈ x, s.length ≤ maxLen := fun x hx s hs => Nat.le_trans ((hNl x hx).2 s hs) (by decide)
      have c21b := v21 N hmax2 hR2
      have hlk : ∀ i, i < 3 → lackX N i = [] := by
        intro i hi
        rw [← hN, ← hL] at hR2 ⊢
        rw [← hL] at hR
        exact healed_lacks a b c hR hR2 hi
      have c0 := v23 N hmax2 hR2 0 (by omega)
      have c1b := v23 N hmax2 hR2 1 (by omega)
      have c2 := v23 N hmax2 hR2 2 (by omega)
      rw [hlk 0 (by decide)] at c0
      rw [hlk 1 (by decide)] at c1b
      rw [hlk 2 (by decide)] at c2
      have c20 := w26 (agreeF N) (agreeF L)
      rw [hagree, decide_eq_true rfl] at c20
      rw [hagree] at c21b
      have hT : N.take 3 = N := List.take_of_length_le (by omega)
      simp only [c1, hT, lls_len, normRows_lls, normRows_strs, Qs, if_true, Nat.reduceBEq, Int.reduceLT, vv f6r1.eq_1, uu f6b2.eq_1, uu f6b36.eq_1, vv f6r37.eq_1, uu f6b38.eq_1, uu f6b39.eq_1]
      refine call_o 12 (by simp [look, lookT]) c21b (by simp [lendL, lendO, lookO, V.isPure]) (by simp [lendL, lendO, lookO, V.norm, norm_list, lst, normRows_lls]) (by simp [V.toks, Abs.K.toks]) (by simp [lookO, plainO]) rfl ?_
      simp only [normRows_lls, normRows_strs, Qs, q_lookT_eq_1, q_regN_eq_1, q_V_reg_eq_1, q_freesL_eq_2, q_addsL_eq_2, if_true, if_false, or_true, bne_iff_ne, ne_eq, Nat.reduceAdd, Nat.reduceEqDiff, Nat.reduceBEq, z_O_arr]
      refine call_s c20 ?_ (ha := by simp [lendL, lendO, lookO, V.norm, norm_list, lst, normRows_strs])
      simp only [normRows_lls, normRows_strs, Qs, if_true, Nat.reduceBEq]
      refine call_l c0 ?_ (ha := by simp [lendL, lendO, lookO, V.norm, norm_list, lst, normRows_lls])
      have hz : ((strs ([] : List Txt)).length : Int) = 0 := rfl
      simp only [hz, normRows_lls, normRows_strs, Qs, q_vLen_eq_2, q_lenO_eq_1, if_true, BEq.rfl, Nat.reduceBEq]
      refine call_l c1b ?_ (ha := by simp [lendL, lendO, lookO, V.norm, norm_list, lst, normRows_lls])
      simp only [hz, normRows_lls, normRows_strs, Qs, q_vLen_eq_2, q_lenO_eq_1, if_true, BEq.rfl, Nat.reduceBEq]
      refine call_l c2 ?_ (ha := by simp [lendL, lendO, lookO, V.norm, norm_list, lst, normRows_lls])
      simp only [hz, normRows_lls, normRows_strs, Qs, q_vLen_eq_2, q_lenO_eq_1, if_true, BEq.rfl, List.nodup_nil, Nat.reduceBEq]
      exact hS
end Go.Abs


set_option maxRecDepth 100000
namespace Go.Proofs.YtnendldalcpgeaaGreatDoor
open Go.Abs Go.RowKit Go.ChangeShapes Go.WideShapes Go.ChangeAt Go.WideMaps Go.WideElems Go.Wire
theorem spec6 (xs : List V) (h : ArgsOf Tryz.prog [22, 22, 22] xs) : Go.Abs.Spec Tryz.prog 6 xs (fun r => r = .bool true) := by
  match xs, h with
  | [a0, a1, a2], ⟨⟨_, _, h0, q0⟩, ⟨_, _, h1, q1⟩, ⟨_, _, h2, q2⟩, _⟩ =>
    obtain ⟨x0, e0⟩ := arg_ss Tryz.underlying22 Tryz.underlying9 (by kernel_rfl) h0
    obtain ⟨x1, e1⟩ := arg_ss Tryz.underlying22 Tryz.underlying9 (by kernel_rfl) h1
    obtain ⟨x2, e2⟩ := arg_ss Tryz.underlying22 Tryz.underlying9 (by kernel_rfl) h2
    rw [q0, q1, q2, e0, e1, e2]
    exact l6 x0 x1 x2
theorem reads6 (os : Os) {H : Type} (enc : TypeId × Value → H) : ∃ places, DataW.whole enc Tryz.prog ((World.doorLaid Tryz.prog 400 os).forCall (fun _ _ => 0) ⟨#[], #[Value.slice none 0 0, .slice none 0 0, .slice none 0 0], []⟩).memory Tryz.f6.params.toList Rows.registryMeetsSpec.vars false #[Value.slice none 0 0, .slice none 0 0, .slice none 0 0].toList 8 = some ([.nil, .nil, .nil], [], places) :=
  ⟨[], by kernel_rfl⟩
theorem lifted6 (os : Os) (started : os.Started) (H : Type) (enc : TypeId × Value → H) (F : Stop.Interp) :
    ReturnsInHanded {} Tryz.checked os 6 .any ((OpenSpec.ofChange Rows.registryMeetsSpec).preRow enc Tryz.prog Tryz.f6 Rows.registryMeetsRow.domain false Rows.registryMeetsRow.laid) (((OpenSpec.ofChange Rows.registryMeetsSpec).at F).post enc Tryz.prog Tryz.f6 false true false false) := by
  obtain ⟨places, hx⟩ := reads6 os enc
  refine returnsInHanded_of_row (C := Tryz.checked) (s := OpenSpec.ofChange Rows.registryMeetsSpec) own started (by kernel_rfl) Tryz.func6
    (witness_row_atRef (enc := enc) (C := Tryz.checked) false (World.doorLaid Tryz.prog 400 os) #[Value.slice none 0 0, .slice none 0 0, .slice none 0 0] rfl (by kernel_rfl) (by kernel_rfl) (by kernel_rfl)
      (OpenSpec.preRow_of_cond 8 hx (by kernel_rfl) (fun k hk => by cases hk) (by kernel_rfl) (door_met os _))) ?_
  intro W base args ds gs before hval hW _ hcond _ hL hsh _
  refine law_contract (C := Tryz.checked) (T := plainTs) (tb := 4) (s := Rows.registryMeetsSpec) plainTs_ok plainTs_lt ?_ kids full rfl ?_ ?_ Tryz.underlying4 ?_ W base args ds gs before hval hW (glob_of hL hsh)
  · rw [Tryz.params6]; decide
  · intro ds hds
    rw [Tryz.params6] at hds
    match ds, hds with
    | [a0, a1, a2], _ => rfl
  · kernel_rfl
  · intro xs hxs
    rw [Tryz.params6] at hxs
    exact spec6 xs hxs
theorem RegistryMeets_row : Rows.RegistryMeetsSaid :=
  OpenClaim.holds_of_cond 6 Tryz.f6 rfl rfl rfl rfl rfl rfl rfl ⟨rfl, rfl, rfl, rfl, rfl⟩ rfl rfl rfl rfl rfl (by kernel_rfl) Tryz.func6 (by kernel_rfl)
    (of_decide_eq_true (by kernel_rfl)) (by unfold Func.isWrapper; first | (rw [if_pos (by decide +kernel)]; kernel_rfl) | (rw [if_neg (by decide +kernel)]; exact ⟨rfl, rfl⟩))
    (fun os started H enc _ F => by rw [OpenClaim.pre_eq_preRow]; exact lifted6 os started H enc F)
theorem RegistryMeets_holds : Rows.RegistryMeetsCardSaid :=
  Claim7.holds_tied_plain_at .later [] _ _ _ _ RegistryMeets_row (fun _ h => by cases h) (by kernel_rfl) (fun _ h => by cases h) registryMeets_row_tie rfl ⟨rfl, rfl⟩ (by kernel_rfl) rfl
    (fun f fn hf hfn => by
      obtain rfl : f = 6 := Option.some.inj ((show Tryz.prog.funcNamed "allonge/allongelaw51.RegistryMeets" = some 6 by kernel_rfl).symm.trans hf) |>.symm
      obtain rfl : fn = Tryz.f6 := (Option.some.inj (Tryz.func6.symm.trans hfn)).symm
      exact ⟨by kernel_rfl, fun j t ht => by
        rw [Tryz.params6] at ht
        have hm : t ∈ [22, 22, 22] := by simpa using Array.mem_of_getElem? ht
        have hall : ([22, 22, 22].all fun u => !Tryz.prog.wantsStandIn u) = true := by kernel_rfl
        exact (show Tryz.prog.wantsStandIn t = false by simpa using List.all_eq_true.1 hall t hm)⟩)
    (by kernel_rfl)
end Go.Proofs.YtnendldalcpgeaaGreatDoor

