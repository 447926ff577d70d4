/- JournalBytes of the program: the row and its tied card -/
import Derived.Test.YtdgcoipbcloieaaDoorP4
import Derived.Test.YtdgcoipbcloieaaDoorRows
import Derived.Test.YtdgcoipbcloieaaDoorCards
import Derived.Test.YtdgcoipbcloieaaDoorTie
import Derived.ProofKit
import Derived.DataShut
import Derived.LaidMore
import Derived.Lib.LaidTab
import Derived.Lib.LaidU8
import Derived.OpenShut
import Derived.SevenTiedAt
import Derived.Deep.DeepHandedRow
import Derived.Deep.DeepWitnessRowRef
import Derived.Shelf.Vars
set_option linter.unusedVariables false
set_option linter.unusedSimpArgs false
set_option maxRecDepth 100000
set_option maxHeartbeats 4000000
namespace Go.Abs
open Go.Proofs Go.Wire Go.RowKit Go.Jr
theorem r13 (d : Disk) (h : Right d) : Spec Tryd.prog 13 [dV d] (fun r => r = .str (logD d)) := by
  refine Spec.of_awlS hf13 okf13 (by simp) fun S hS => ?_
  obtain ⟨secs, pend, left, down⟩ := d
  have hhi : secs.length ≤ 512 := h.hi
  have hlo : 1 ≤ secs.length := h.lo
  have hse : ∀ s ∈ secs, s.length = 16 := h.se
  have hlen : ∀ j, (((secs.drop 2).take j).flatten).length ≤ 16 * 512 := by
    intro j
    rw [flat_16 _ fun x hx => hse x (List.mem_of_mem_drop (List.mem_of_mem_take hx)), List.length_take, List.length_drop]
    omega
  unfold logD at hS
  simp only [encD, Qs, Nat.reduceBEq, uu f13.eq_1, uu f13b12.eq_1, id @f13r13.eq_1, uu f13b14.eq_1, uu f13b15.eq_1, id @f13r16.eq_1, uu f13b17.eq_1, id @f13r18.eq_1, uu f13b19.eq_1]
  rw [uf13l11]
  refine awl_loop (fun j : Nat => [(1, .k (.ptr 1 0)), (3, .str ((secs.drop 2).take j).flatten), (4, .int .i64 (2 + j : Nat))]) (fun _ => [(1, objC secs pend left down)]) (fun j => j ≤ secs.length - 2) (fun j => secs.length - j) 0 rfl rfl (Nat.zero_le _) ?_
  intro j hj
  by_cases hlt : 2 + j < secs.length
  · have c1 : ((2 + j : Nat) : Int) < secs.length := by omega
    have c4 : IntKind.i64.wrap (((2 + j : Nat) : Int) + 1) = ((2 + (j + 1) : Nat) : Int) := by rw [wrap_in (by omega) (by omega)]; omega
    have hz : ((secs.drop 2).take j).flatten ++ secs[2 + j] = ((secs.drop 2).take (j + 1)).flatten := by
      rw [List.take_add_one, List.getElem?_drop, List.getElem?_eq_getElem hlt, List.flatten_append]; simp
    have hl := hlen j
    have hs := hse _ (List.getElem_mem hlt)
    simp only [c1, c4, strs_len, strs_at hlt, hz, Qs, if_true, if_false, Nat.reduceAdd, Nat.reduceLeDiff, Nat.reduceBEq, id @f13r3.eq_1, id @f13r4.eq_1, uu f13b5.eq_1, uu f13b6.eq_1, uu f13b7.eq_1, id @f13r8.eq_1, uu f13b9.eq_1, uu f13b10.eq_1]
    exact ⟨by omega, Next.intro (j + 1) rfl rfl (by omega) (by omega)⟩
  · have c1 : ¬ ((2 + j : Nat) : Int) < secs.length := by omega
    simp only [c1, strs_len, Qs, if_true, if_false, List.nodup_nil, Nat.reduceAdd, Nat.reduceLeDiff, Nat.reduceBEq, id @f13r1.eq_1, uu f13b2.eq_1, uu f13b7.eq_1, id @f13r8.eq_1, uu f13b9.eq_1, uu f13b10.eq_1]
    rw [List.take_of_length_le (by rw [List.length_drop]; omega)]
    exact hS
def obN : Nat → OS
  | 0 => [(2, .var 27 [.c (.list 0 (some true) []), .c (.list 0 (some true) []), .c (.int .i64 0), .c (.bool false)]), (4, .var 27 [.c (.list 0 (some true) []), .c (.list 0 (some true) []), .c (.int .i64 (-1)), .c (.bool false)])]
  | i + 1 => [(2, .var 27 [.c (.list 0 (some true) []), .c (.list 0 (some true) []), .c (.int .i64 0), .c (.bool false)]), (4, .var 27 [.own 23, .c (.list 0 (some true) []), .c (.int .i64 (-1)), .c (.bool false)]), (23, .arr 9 1 (some false) (strs (List.replicate (i + 1) (zeros 16))))]
theorem r16 (n : Nat) (h0 : 1 ≤ n) (h : n ≤ 512) : Spec Tryd.prog 16 [.int .i64 n] (fun r => r = resD (newD n, 0)) := by
  refine Spec.of_awlP hf16 okf16 (by simp) fun S hS => ?_
  have l0 : ¬ (n : Int) < 1 := by omega
  have l1 : ¬ (n : Int) > 512 := by omega
  simp only [l0, l1, Qs, q_vBuild_eq_2, if_true, if_false, bne_iff_ne, ne_eq, Int.reduceNeg, List.append_nil, Nat.reduceAdd, Nat.reduceEqDiff, Nat.reduceLeDiff, Nat.reduceBEq, uu f16.eq_1, uu f16b12.eq_1, id @f16r13.eq_1, uu f16b14.eq_1, uu f16b15.eq_1, id @f16r16.eq_1, uu f16b17.eq_1, uu f16b20.eq_1, id @f16r21.eq_1, uu f16b22.eq_1, uu f16b23.eq_1, id @f16r24.eq_1, uu f16b25.eq_1]
  rw [uf16l11]
  refine awl_loop (fun i : Nat => [(0, .int .i64 n), (2, .k (.ptr 2 0)), (4, .k (.ptr 4 0)), (5, .int .i64 i)]) obN (fun i => i ≤ n) (fun i => n - i) 0 rfl rfl (Nat.zero_le _) ?_
  intro i hi
  by_cases hlt : i < n
  · have c1 : (i : Int) < n := by omega
    have c4 : IntKind.i64.wrap ((i : Int) + 1) = (i : Int) + 1 := wrap_in (by omega) (by omega)
    cases i with
    | zero =>
      have c0 : (0 : Int) < n := by omega
      simp only [obN, c0, Qs, if_true, if_false, Int.reduceNeg, Nat.reduceAdd, Nat.reduceLeDiff, Nat.reduceBEq, id @f16r3.eq_1, id @f16r4.eq_1, uu f16b5.eq_1, uu f16b6.eq_1, uu f16b7.eq_1, id @f16r8.eq_1, uu f16b9.eq_1, uu f16b10.eq_1]
      refine ⟨rfl, _, r32 16 (by decide), .inl rfl, ?_⟩
      simp only [c0, Qs, q_appNK_eq_1, q_appendK_eq_2, if_true, reduceCtorEq, forall_eq, bne_iff_ne, ne_eq, Int.reduceNeg, List.mem_cons, Nat.reduceAdd, Nat.reduceMul, Nat.reduceEqDiff, Nat.reduceLeDiff, Nat.reduceLT, Nat.reduceBEq, Int.reduceAdd, List.not_mem_nil]
      exact Next.intro 1 rfl rfl (by omega) (by omega)
    | succ i =>
      simp only [obN, c1, c4, Qs, if_true, if_false, Int.reduceNeg, Nat.reduceAdd, Nat.reduceLeDiff, Nat.reduceBEq, id @f16r3.eq_1, id @f16r4.eq_1, uu f16b5.eq_1, uu f16b6.eq_1, uu f16b7.eq_1, id @f16r8.eq_1, uu f16b9.eq_1, uu f16b10.eq_1]
      refine ⟨rfl, _, r32 16 (by decide), .inl rfl, ?_⟩
      simp only [strs_len, List.length_replicate, c1, c4, Qs, q_K_scrub_eq_5, q_O_scrub_eq_1, if_true, if_false, reduceCtorEq, forall_eq, Int.reduceNeg, List.mem_cons, Nat.reduceAdd, Nat.reduceEqDiff, Nat.reduceLeDiff, Nat.reduceLT, Nat.reduceBEq, List.not_mem_nil]
      refine ⟨by omega, by omega, Next.intro (i + 2) rfl ?_ (by omega) (by omega)⟩
      have e : strs (zeros 16 :: List.replicate i (zeros 16)) ++ [[C.str (zeros 16)]] = strs (List.replicate (i + 1 + 1) (zeros 16)) := by
        have := strs_snoc (List.replicate (i + 1) (zeros 16)) (zeros 16)
        rw [← List.replicate_succ'] at this
        exact this
      rw [e]
      rfl
  · obtain rfl : i = n := by omega
    have c1 : ¬ (i : Int) < i := by omega
    cases i with
    | zero => omega
    | succ i =>
      simp only [obN, c1, normRows_strs, Qs, if_true, Int.reduceNeg, List.append_nil, List.nodup_nil, List.nodup_cons, Nat.reduceAdd, Nat.reduceLT, Nat.reduceBEq, List.not_mem_nil, id @f16r1.eq_1, uu f16b2.eq_1, uu f16b7.eq_1, id @f16r8.eq_1, uu f16b9.eq_1, uu f16b10.eq_1]
      exact fin_K hS rfl rfl (norm_s' _ _) (norm_w []) rfl
theorem r14 (n : Nat) (h : n < 100000000) : Spec Tryd.prog 14 [.int .i64 n] (fun r => r = .str (hdr n)) := by
  refine Spec.of_awlS hf14 okf14 (by simp) fun S hS => ?_
  simp only [Qs, uu f14.eq_1, uu f14b16.eq_1, id @f14r17.eq_1, uu f14b18.eq_1, uu f14b19.eq_1, id @f14r20.eq_1, uu f14b21.eq_1, id @f14r22.eq_1, uu f14b23.eq_1]
  rw [uf14l15]
  refine awl_loop (fun k : Nat => [(0, .int .i64 (n / 10 ^ k : Nat)), (3, .str (dig k n)), (4, .int .i64 k)]) (fun _ => []) (fun k => k ≤ 8) (fun k => 8 - k) 0 (by simp [keepT, lookT, dig]) rfl (by decide) ?_
  intro k hk
  by_cases hlt : k < 8
  · have c1 : (k : Int) < 8 := by omega
    have c4 : IntKind.i64.wrap ((k : Int) + 1) = (k : Int) + 1 := wrap_in (by omega) (by omega)
    have hd := dig_cons k n
    have hm : n / 10 ^ (k + 1) = n / 10 ^ k / 10 := by rw [Nat.div_div_eq_div_mul, Nat.pow_succ]
    have hle : n / 10 ^ k ≤ n := Nat.div_le_self _ _
    generalize n / 10 ^ k = m at hd hm hle ⊢
    simp only [c1, c4, Qs, q_cutInt_eq_4, q_cutInt_eq_5, if_true, ne_eq, Nat.reduceAdd, Nat.reduceBEq, Int.reduceEq, id @f14r3.eq_1, id @f14r4.eq_1, id @f14r5.eq_1, uu f14b6.eq_1, id @f14r7.eq_1, uu f14b8.eq_1, uu f14b9.eq_1, uu f14b10.eq_1, uu f14b11.eq_1, id @f14r12.eq_1, uu f14b13.eq_1, uu f14b14.eq_1]
    have ht : (m : Int).tmod 10 = ((m % 10 : Nat) : Int) := by rw [Int.tmod_eq_emod_of_nonneg (by omega)]; omega
    have hq : (m : Int).tdiv 10 = ((m / 10 : Nat) : Int) := by rw [Int.tdiv_eq_ediv_of_nonneg (by omega)]; omega
    have w1 : IntKind.i64.wrap (((m % 10 : Nat) : Int) + 1) = ((m % 10 + 1 : Nat) : Int) := by rw [wrap_in (by omega) (by omega)]; omega
    have w2 : IntKind.i64.wrap ((m / 10 : Nat) : Int) = ((m / 10 : Nat) : Int) := wrap_in (by omega) (by omega)
    rw [ht, hq, w1, w2, Int.toNat_natCast, Int.toNat_natCast]
    have hj : m % 10 < 10 := Nat.mod_lt _ (by decide)
    generalize m % 10 = j at hj hd ⊢
    have hc : List.drop j (List.take (j + 1) [48, 49, 50, 51, 52, 53, 54, 55, 56, 57]) = [UInt8.ofNat (48 + j)] := by
      have : ∀ j, j < 10 → List.drop j (List.take (j + 1) ([48, 49, 50, 51, 52, 53, 54, 55, 56, 57] : Txt)) = [UInt8.ofNat (48 + j)] := by decide
      exact this j hj
    rw [hc, ← hm, show [UInt8.ofNat (48 + j)] ++ dig k n = dig (k + 1) n from hd.symm]
    exact ⟨⟨by omega, by omega, by omega⟩, by rw [dig_len]; simp only [List.length_singleton]; omega, Next.intro (k + 1) rfl rfl (by omega) (by omega)⟩
  · obtain rfl : k = 8 := by omega
    have c1 : ¬ ((8 : Nat) : Int) < 8 := by omega
    simp only [c1, dig_len, Qs, if_true, List.nodup_nil, Nat.reduceAdd, Nat.reduceLeDiff, Nat.reduceBEq, Int.reduceLT, id @f14r1.eq_1, uu f14b2.eq_1, uu f14b11.eq_1, id @f14r12.eq_1, uu f14b13.eq_1, uu f14b14.eq_1]
    first | exact hS | exact ⟨by decide, hS⟩
end Go.Abs


set_option maxRecDepth 100000
set_option maxHeartbeats 4000000
namespace Go.Abs
open Go.Proofs Go.Wire Go.RowKit Go.Jr
def numI (r : Option Nat) : Int := match r with
  | some n => n
  | none => -1
theorem r15 (s : Txt) (h : s.length = 16) : Spec Tryd.prog 15 [.str s] (fun r => r = .int .i64 (numI (numT s))) := by
  refine Spec.of_awlS hf15 okf15 (by simp) fun S hS => ?_
  unfold numT at hS
  simp only [h, Qs, if_true, Nat.reduceBEq, Int.reduceBNe, uu f15.eq_1, uu f15b18.eq_1, id @f15r19.eq_1, uu f15b20.eq_1, uu f15b21.eq_1, id @f15r22.eq_1, uu f15b23.eq_1, uu f15b26.eq_1, id @f15r27.eq_1, uu f15b28.eq_1, uu f15b29.eq_1, id @f15r30.eq_1, uu f15b31.eq_1]
  rw [uf15l17]
  refine awl_loop (fun i : Nat => [(0, .str s), (3, .int .i64 (valD (s.take i) : Nat)), (4, .int .i64 i)]) (fun _ => [])
    (fun i => i ≤ 8 ∧ (s.take i).all isDig = true ∧ s.take i = (s.drop 8).take i) (fun i => 8 - i) 0 rfl rfl ⟨by decide, rfl, rfl⟩ ?_
  rintro i ⟨hi, hd, he⟩
  by_cases hlt : i < 8
  · have c1 : (i : Int) < 8 := by omega
    have c2 : (i : Int) < s.length := by omega
    have c3 : IntKind.i64.wrap ((i : Int) + 8) = ((i + 8 : Nat) : Int) := by rw [wrap_in (by omega) (by omega)]; omega
    have c4 : IntKind.i64.wrap ((i : Int) + 1) = (i : Int) + 1 := wrap_in (by omega) (by omega)
    have hts := take_snoc (s := s) (i := i) (by omega)
    have htd := take_snoc (s := s.drop 8) (i := i) (by rw [List.length_drop]; omega)
    have hde : (s.drop 8).getD i 0 = s.getD (i + 8) 0 := by
      rw [List.getD_eq_getElem?_getD, List.getD_eq_getElem?_getD, List.getElem?_drop, Nat.add_comm 8 i]
    rw [hde] at htd
    have hval : (valD (s.take i)) < 10 ^ i := valD_lt i _ (by rw [List.length_take]; omega) hd
    have hval8 : valD (s.take i) < 100000000 := Nat.lt_of_lt_of_le hval (Nat.pow_le_pow_right (n := 10) (by decide) hi)
    have hmem : isDig (s.getD i 0) = false → (s.take 8).all isDig = false := by
      intro hc
      rw [List.all_eq_false]
      refine ⟨s.getD i 0, ?_, by rw [hc]; simp⟩
      rw [List.getD_eq_getElem?_getD, List.getElem?_eq_getElem (show i < s.length by omega), Option.getD_some, List.mem_take_iff_getElem]
      exact ⟨i, by omega, rfl⟩
    have hdif : s.getD i 0 ≠ s.getD (i + 8) 0 → s.take 8 ≠ s.drop 8 := by
      intro hne e
      refine hne ?_
      have e1 : (s.take 8).getD i 0 = s.getD i 0 := by
        rw [List.getD_eq_getElem?_getD, List.getD_eq_getElem?_getD, List.getElem?_take_of_lt hlt]
      rw [← e1, e, hde]
    simp only [c1, c2, c3, c4, h, Qs, q_AOp_dst_eq_24, q_exL_eq_16, q_exL_eq_25, q_exLQ_eq_3, q_exLQ_eq_26, q_vConv_eq_1, q_vSidx_eq_1, if_true, if_false, Int.reduceNeg, List.nodup_nil, Nat.reduceBEq, q_exKQ_eq_1, id @f15r3.eq_1, id @f15r4.eq_1, id @f15r5.eq_1, uu f15b6.eq_1, uu f15b7.eq_1, id @f15r8.eq_1, uu f15b9.eq_1, uu f15b10.eq_1, uu f15b11.eq_1, uu f15b12.eq_1, uu f15b13.eq_1, id @f15r14.eq_1, uu f15b15.eq_1, uu f15b16.eq_1]
    generalize hcc : s.getD i 0 = c at hts hmem hdif ⊢
    generalize hee : s.getD (i + 8) 0 = e at htd hdif ⊢
    generalize hm : valD (s.take i) = m at hval8 ⊢
    have hbad : (isDig c = false ∨ c ≠ e) → S (V.k (K.c (C.int IntKind.i64 (-1)))) := by
      intro hc
      rw [if_neg (fun h => hc.elim (fun hc => by rw [hmem hc] at h; exact absurd h.2 (by simp)) fun hc => hdif hc h.1)] at hS
      exact hS
    refine ⟨by omega, fun g => hbad (.inl ?_), fun g1 => ⟨by omega, fun g => hbad (.inl ?_), fun g2 => ⟨by omega, by omega, fun g => hbad (.inr ?_), fun g3 => ⟨by omega, ?_⟩⟩⟩⟩
    · simp [isDig]; omega
    · simp [isDig]; omega
    · rintro rfl; exact g rfl
    · have hce : c = e := UInt8.toNat_inj.1 (by omega)
      have w2 : IntKind.i64.wrap (c.toNat : Int) = (c.toNat : Int) := wrap_in (by omega) (by omega)
      have w3 : IntKind.i64.wrap (10 * (m : Int)) = 10 * (m : Int) := wrap_in (by omega) (by omega)
      have w4 : IntKind.i64.wrap (10 * (m : Int) + (c.toNat : Int)) = 10 * (m : Int) + (c.toNat : Int) := wrap_in (by omega) (by omega)
      have w5 : IntKind.i64.wrap (10 * (m : Int) + (c.toNat : Int) - 48) = ((m * 10 + (c.toNat - 48) : Nat) : Int) := by rw [wrap_in (by omega) (by omega)]; omega
      have ev : m * 10 + (c.toNat - 48) = valD (s.take (i + 1)) := by rw [hts, valD_snoc, hm]
      have hd2 : (s.take (i + 1)).all isDig = true := by
        rw [hts, List.all_append, hd]
        simp [isDig]
        omega
      rw [w3, w2, w4, w5, ev]
      exact Next.intro (i + 1) rfl rfl ⟨by omega, hd2, by rw [hts, htd, he, hce]⟩ (by omega)
  · obtain rfl : i = 8 := by omega
    have c1 : ¬ ((8 : Nat) : Int) < 8 := by omega
    simp only [c1, Qs, if_true, List.nodup_nil, Nat.reduceBEq, Int.reduceLT, id @f15r1.eq_1, uu f15b2.eq_1, uu f15b13.eq_1, id @f15r14.eq_1, uu f15b15.eq_1, uu f15b16.eq_1]
    rw [List.take_of_length_le (l := s.drop 8) (by rw [List.length_drop]; omega)] at he
    rw [if_pos ⟨he, hd⟩] at hS
    exact hS
end Go.Abs


set_option maxRecDepth 100000
set_option maxHeartbeats 4000000
namespace Go.Abs
open Go.Proofs Go.Wire Go.RowKit Go.Jr
theorem curD_01 {a b : Option Nat} {c : Int} {n : Nat} (h : curD a b = some (c, n)) : c = 0 ∨ c = 1 := by
  unfold curD at h
  split at h
  · cases h
  · cases h; exact .inl rfl
  · cases h; exact .inr rfl
  · split at h
    · cases h; exact .inr rfl
    · cases h; exact .inl rfl
theorem log_le {d : Disk} (h : Right d) : (logD d).length ≤ 16 * (d.secs.length - 2) := by
  rw [logD, flat_16 _ fun x hx => h.se x (List.mem_of_mem_drop hx), List.length_drop]
  exact Nat.le_refl _
theorem read_facts (d : Disk) (h : Right d) : (readJ d).1.bytes.length ≤ 8192 ∧ ((readJ d).2 = 0 → ((readJ d).1.cur = 0 ∨ (readJ d).1.cur = 1) ∧ d.down = false ∧ d.pend = [] ∧ 2 < d.secs.length) := by
  have hl := log_le h
  have hhi := h.hi
  unfold readJ
  by_cases hr : readyD d = 0
  · rw [if_neg (by simp [hr])]
    obtain ⟨e1, e2⟩ := readyD_eq hr
    by_cases h2 : d.secs.length ≤ 2
    · rw [if_pos h2]; exact ⟨by simp, by simp⟩
    · rw [if_neg h2]
      split
      · exact ⟨by simp, by simp⟩
      · rename_i c n hc
        split
        · exact ⟨by simp, by simp⟩
        · split
          · exact ⟨by simp, by simp⟩
          · split
            · exact ⟨by simp, by simp⟩
            · refine ⟨by simp only [List.length_take]; omega, fun _ => ⟨curD_01 hc, e1, e2, by omega⟩⟩
  · rw [if_pos hr]
    exact ⟨by simp, fun h => absurd h hr⟩
theorem right_flush {d : Disk} (h : Right d) (hu : d.down = false) : Right (flushD d).1 ∧ ((flushD d).2 = 0 → (flushD d).1.down = false ∧ (flushD d).1.pend = [] ∧ (flushD d).1.secs.length = d.secs.length) := by
  have hl0 := h.l0
  have hl1 := h.l1
  have hpp : ∀ (ws : List Wr), (∀ w ∈ ws, w ∈ d.pend) → ∀ s ∈ perf d.secs ws, s.length = 16 := fun ws hw => perf_se _ _ h.se fun w hx => (h.wr w (hw w hx)).2.2
  by_cases hk : 0 ≤ d.left ∧ d.left < d.pend.length
  · rw [flush_torn hu hk]
    have hl : (perf d.secs (d.pend.take d.left.toNat)).length = d.secs.length := perf_len _ _
    have hp := hpp (d.pend.take d.left.toNat) fun w hw => List.mem_of_mem_take hw
    have hkl : d.left.toNat < d.pend.length := by omega
    have hgd : d.pend.getD d.left.toNat default = d.pend[d.left.toNat] := by rw [List.getD_eq_getElem?_getD, List.getElem?_eq_getElem hkl]; rfl
    obtain ⟨w0, w1, w2⟩ := h.wr _ (List.getElem_mem hkl)
    refine ⟨⟨by simp only [List.length_set]; rw [hl]; exact h.lo, by simp only [List.length_set]; rw [hl]; exact h.hi, by simp, by simp, by simp, fun _ => ⟨rfl, rfl⟩, ?_, fun w hw => absurd hw (by simp)⟩, fun e => absurd e (by simp)⟩
    refine set_se hp ?_
    rw [hgd, List.length_append, List.length_take, List.length_drop, w2, getD_se hp (by omega)]
    decide
  · rw [flush_all hu hk]
    have hl : (perf d.secs d.pend).length = d.secs.length := perf_len _ _
    refine ⟨⟨by rw [hl]; exact h.lo, by rw [hl]; exact h.hi, by simp, ?_, ?_, fun e => absurd e (by simp), hpp _ fun _ h => h, fun w hw => absurd hw (by simp)⟩, fun _ => ⟨rfl, rfl, hl⟩⟩
    · show -1 ≤ (if 0 ≤ d.left then d.left - d.pend.length else -1 : Int)
      split <;> omega
    · show (if 0 ≤ d.left then d.left - d.pend.length else -1 : Int) ≤ 512
      split <;> omega
theorem chunk_is {all : Txt} {j : Nat} (h : 16 * j < all.length) : List.drop ((j : Int) * 16).toNat (List.take (if (all.length : Int) < ((j : Int) + 1) * 16 then (all.length : Int) else ((j : Int) + 1) * 16).toNat all) = (all.drop (16 * j)).take 16 := by
  rw [show ((j : Int) * 16).toNat = 16 * j by omega]
  split
  · rw [Int.toNat_natCast, List.take_length, List.take_of_length_le (by rw [List.length_drop]; omega)]
  · rw [show (((j : Int) + 1) * 16).toNat = 16 * j + 16 by omega, List.drop_take, show 16 * j + 16 - 16 * j = 16 by omega]
theorem b11 (d : Disk) (h : Right d) (s : Txt) (hs : s.length ≤ 1000000000) : Spec Tryd.prog 11 [dV d, .str s] (fun r => r = resD (appendJ d s)) := by
  refine Spec.of_awlP hf11 okf11 (by simp) fun S hS => ?_
  have c27 := b27 d h
  have c12 := w11 s (by omega)
  unfold appendJ at hS
  obtain ⟨hb, hrd⟩ := read_facts d h
  generalize readJ d = x at c27 hS hb hrd
  obtain ⟨⟨xl, xb, xc⟩, xe⟩ := x
  have hse := h.se
  have hhi := h.hi
  obtain ⟨secs, pend, left, down⟩ := d
  simp only [dV, encD, resC] at *
  simp only [normRows_strs, normRows_wrs, Qs, if_true, bne_iff_ne, ne_eq, Nat.reduceAdd, Nat.reduceEqDiff, Nat.reduceBEq, uu f11.eq_1, id @f11r45.eq_1, uu f11b46.eq_1, id @f11r47.eq_1, uu f11b48.eq_1]
  refine call_r c27 ?_
  simp only [normRows_strs, normRows_wrs, Qs, if_false, bne_iff_ne, ne_eq, List.append_nil, Nat.reduceAdd, Nat.reduceMul, Nat.reduceEqDiff, Nat.reduceLeDiff, Nat.reduceBEq, id @f11r43.eq_1, uu f11b44.eq_1]
  refine ⟨rfl, _, c12, .inl rfl, ?_⟩
  have hws := wS_le (s := s) (by omega)
  have b1 : xb.length + (wS s).length ≤ 9223372036854775807 := by omega
  simp only [b1, normRows_strs, normRows_wrs, Qs, q_cutInt_eq_4, if_true, if_false, ne_eq, List.append_nil, List.nodup_nil, Nat.reduceAdd, Nat.reduceLeDiff, Nat.reduceLT, Nat.reduceBEq, Int.reduceEq, uu f11b22.eq_1, id @f11r23.eq_1, uu f11b24.eq_1, uu f11b25.eq_1, id @f11r26.eq_1, uu f11b27.eq_1, id @f11r28.eq_1, uu f11b29.eq_1, id @f11r30.eq_1, uu f11b31.eq_1, uu f11b32.eq_1, id @f11r33.eq_1, uu f11b34.eq_1, uu f11b35.eq_1, id @f11r36.eq_1, uu f11b37.eq_1, uu f11b38.eq_1, id @f11r39.eq_1, uu f11b40.eq_1, uu f11b41.eq_1, uu f11b42.eq_1]
  by_cases he : xe = 0
  · subst he
    obtain ⟨hc, hdn, hpd, h2⟩ := hrd rfl
    subst hdn hpd
    rw [if_neg (by simp)] at hS
    by_cases h1 : (s.length : Int) > 2000
    · rw [if_pos (show s.length > 2000 by omega)] at hS
      simp only [h1, normRows_strs, normRows_wrs, Qs, forall_const, not_true_eq_false, Int.reduceBNe]
      exact fin_T hS (secs := []) (pend := []) rfl rfl rfl
    · rw [if_neg (show ¬ s.length > 2000 by omega)] at hS
      have w2 : IntKind.i64.wrap ((secs.length : Int) - 2) = (secs.length : Int) - 2 := wrap_in (by omega) (by omega)
      have w3 : IntKind.i64.wrap (((secs.length : Int) - 2) * 16) = ((secs.length : Int) - 2) * 16 := wrap_in (by omega) (by omega)
      have w4 : IntKind.i64.wrap ((xb.length : Int).tdiv 16) = ((xb.length / 16 : Nat) : Int) := by
        rw [Int.tdiv_eq_ediv_of_nonneg (by omega), wrap_in (by omega) (by omega)]; omega
      simp only [h1, w2, w3, w4, strs_len, normRows_strs, normRows_wrs, Qs, forall_const, not_true_eq_false, Int.reduceBNe]
      generalize hall : xb ++ wS s = all at hS ⊢
      have hal : all.length ≤ 100000 := by rw [← hall, List.length_append]; omega
      have hat : xb.length / 16 ≤ 512 := by omega
      generalize xb.length / 16 = at0 at hS hat ⊢
      refine ⟨fun g => ?_, fun g => ⟨fun g2 => ?_, fun g2 => ?_⟩⟩
      · rw [if_pos (.inl (by omega))] at hS
        exact fin_T hS (secs := []) (pend := []) rfl rfl rfl
      · rw [if_pos (.inr (by omega))] at hS
        exact fin_T hS (secs := []) (pend := []) rfl rfl rfl
      · rw [if_neg (by omega)] at hS
        have hfit : all.length ≤ (secs.length - 2) * 16 := by omega
        rw [uf11l21]
        refine awl_loop (fun x : Nat × Disk => [(2, .k (.ptr 2 0)), (4, .k (.ptr 4 0)), (6, .k (.ptr 6 0)), (8, .str all), (9, .int .i64 x.1)])
          (fun x => [(2, objC x.2.secs x.2.pend x.2.left x.2.down), (4, .var 27 [.c (.list 0 (some true) []), .c (.list 0 (some true) []), .c (.int .i64 0), .c (.bool false)]), (6, .var 53 [.c (lstC 1 (strs xl)), .c (.str xb), .c (.int .i64 xc)])])
          (fun x => Right x.2 ∧ x.2.down = false ∧ x.2.secs.length = secs.length ∧ x.2.pend.length ≤ x.1 ∧ x.1 ≤ 512 + all.length ∧ ∃ k, all.length ≤ 16 * (x.1 + k) ∧ putJ all k x.1 x.2 = putJ all all.length at0 ⟨secs, [], left, false⟩)
          (fun x => all.length + 1 - x.1) (at0, ⟨secs, [], left, false⟩) rfl rfl ⟨h, rfl, rfl, by simp, by omega, all.length, by omega, rfl⟩ ?_
        rintro ⟨j, secs2, pend2, left2, down2⟩ ⟨g1, g2, g3, g4, g5, k, g6, g7⟩
        simp only [] at g2 g3 g4 g5 g6 g7
        subst g2
        have w5 : IntKind.i64.wrap ((j : Int) * 16) = (j : Int) * 16 := wrap_in (by omega) (by omega)
        by_cases hlt : 16 * j < all.length
        · have c1 : (j : Int) * 16 < all.length := by omega
          have w6 : IntKind.i64.wrap (2 + (j : Int)) = 2 + (j : Int) := wrap_in (by omega) (by omega)
          have w7 : IntKind.i64.wrap ((j : Int) + 1) = (j : Int) + 1 := wrap_in (by omega) (by omega)
          have w8 : IntKind.i64.wrap (((j : Int) + 1) * 16) = ((j : Int) + 1) * 16 := wrap_in (by omega) (by omega)
          simp only [w5, w6, w7, w8, c1, Qs, q_exLQ_eq_37, q_vInts_eq_1, q_vInts_eq_2, q_foldV_eq_1, q_vMinmax_eq_1, q_minmaxI_eq_1, if_true, if_false, Nat.reduceAdd, Nat.reduceBEq, id @f11r13.eq_1, id @f11r14o0.eq_1, id @f11r14o1.eq_1, id @f11r14o2.eq_1, id @f11r14o3.eq_1, id @f11r14o4.eq_1, id @f11r14o5.eq_1, id @f11r14o6.eq_1, id @f11r14o7.eq_1, id @f11r14o8.eq_1, id @f11r14o9.eq_1, id @f11r14o10.eq_1, id @f11r14o11.eq_1, id @f11r14o12.eq_1, id @f11r14o13.eq_1, id @f11r14o14.eq_1, id @f11r14o15.eq_1, id @f11r14o16.eq_1, id @f11r14o17.eq_1, utf11r14, uu f11b15.eq_1, uu f11b16.eq_1, uu f11b17.eq_1, id @f11r18.eq_1, uu f11b19.eq_1, uu f11b20.eq_1]
          obtain ⟨k, rfl⟩ : ∃ k', k = k' + 1 := ⟨k - 1, by omega⟩
          rw [putJ, if_pos hlt] at g7
          have hch : ((all.drop (16 * j)).take 16).length ≤ 16 := by rw [List.length_take]; omega
          rw [chunk_is hlt]
          generalize (all.drop (16 * j)).take 16 = ch at g7 hch ⊢
          have hw := writeD_ok (d := ⟨secs2, pend2, left2, false⟩) (i := 2 + (j : Int)) (s := ch) rfl (by omega) (by show 2 + (j : Int) < secs2.length; omega) hch (by show pend2.length < 512; omega)
          have hp := right_push (i := 2 + (j : Int)) (t := pad ch) g1 (by omega) (by omega) (pad_len hch) (by omega)
          rw [hw] at g7
          refine ⟨⟨by omega, by split <;> omega, by split <;> omega⟩, callQ_R (b28 _ g1 (2 + (j : Int)) ch) ?_ rfl (by simp [lendL, V.norm, C.normRow, dV, encD, norm_list, norm_lst, normRows_strs, normRows_wrs]) rfl⟩
          rw [hw]
          simp only [resD, dV, encD, normRows_strs, normRows_wrs, w7, Qs, if_true, List.append_nil, Nat.reduceAdd, Nat.reduceBEq]
          exact Next.intro (j + 1, ⟨secs2, pend2 ++ [⟨2 + (j : Int), pad ch⟩], left2, false⟩) rfl rfl ⟨hp, rfl, g3, by show (pend2 ++ [_]).length ≤ j + 1; rw [List.length_append, List.length_singleton]; omega, by show j + 1 ≤ 512 + all.length; omega, k, by show all.length ≤ 16 * (j + 1 + k); omega, g7⟩ (by show all.length + 1 - (j + 1) < all.length + 1 - j; omega)
        · have c1 : ¬ (j : Int) * 16 < all.length := by omega
          have g8 : putJ all k j ⟨secs2, pend2, left2, false⟩ = ⟨secs2, pend2, left2, false⟩ := by
            cases k with
            | zero => rfl
            | succ k => rw [putJ, if_neg hlt]
          rw [g8] at g7
          rw [← g7] at hS
          have c29 := b29 _ g1
          simp only [dV, encD] at c29
          simp only [w5, c1, normRows_strs, normRows_wrs, Qs, if_true, Nat.reduceAdd, Nat.reduceBEq, id @f11r11.eq_1, uu f11b12.eq_1, uu f11b17.eq_1, id @f11r18.eq_1, uu f11b19.eq_1, uu f11b20.eq_1]
          refine call_r c29 ?_
          obtain ⟨hRf, hzf⟩ := right_flush g1 rfl
          generalize flushD ⟨secs2, pend2, left2, false⟩ = x at hS hRf hzf ⊢
          obtain ⟨⟨s3, p3, l3, d3⟩, e3⟩ := x
          simp only [] at hS hRf hzf
          by_cases hz : e3 = 0
          · subst hz
            obtain ⟨z1, z2, z3⟩ := hzf rfl
            subst z1 z2
            rw [if_neg (by simp)] at hS
            have w9 : IntKind.i64.wrap (1 - xc) = 1 - xc := wrap_in (by omega) (by omega)
            have hhl := hdr_len all.length
            have hw := writeD_ok (d := ⟨s3, [], l3, false⟩) (i := 1 - xc) (s := hdr all.length) rfl (by omega) (by show 1 - xc < s3.length; omega) (by omega) (by simp)
            have hp := right_push (i := 1 - xc) (t := pad (hdr all.length)) hRf (by omega) (by omega) (pad_len (by omega)) (by simp)
            rw [hw] at hS
            simp only [resD, dV, encD, normRows_strs, normRows_wrs, w9, Qs, if_true, if_false, List.append_nil, Nat.reduceAdd, Nat.reduceMul, Nat.reduceBEq, Int.reduceBNe, id @f11r3o0.eq_1, id @f11r3o1.eq_1, id @f11r3o2.eq_1, id @f11r3o3.eq_1, id @f11r3o4.eq_1, id @f11r3o5.eq_1, id @f11r3o6.eq_1, id @f11r3o7.eq_1, id @f11r3o8.eq_1, id @f11r3o9.eq_1, id @f11r3o10.eq_1, id @f11r3o11.eq_1, utf11r3, uu f11b4.eq_1, uu f11b7.eq_1, id @f11r8.eq_1, uu f11b9.eq_1, uu f11b10.eq_1]
            refine ⟨rfl, _, s30 all.length (by omega), .inl rfl, ?_⟩
            simp only [normRows_strs, normRows_wrs, w9, Qs, Nat.reduceBEq]
            refine callQ_R (b28 _ hRf (1 - xc) (hdr all.length)) ?_ rfl (by simp [lendL, V.norm, C.normRow, dV, encD, norm_list, norm_lst, normRows_strs, normRows_wrs]) rfl
            rw [hw]
            have c29' := b29 _ hp
            simp only [dV, encD] at c29'
            simp only [resD, dV, encD, normRows_strs, normRows_wrs, w9, Qs, if_true, List.append_nil, Nat.reduceAdd, Nat.reduceBEq, id @f11r1.eq_1, uu f11b2.eq_1]
            refine call_r c29' ?_
            simp only [List.nil_append] at hS ⊢
            generalize flushD ⟨s3, [⟨1 - xc, pad (hdr all.length)⟩], l3, false⟩ = y at hS ⊢
            obtain ⟨⟨s4, p4, l4, d4⟩, e4⟩ := y
            simp only [resD, dV, encD, normRows_strs, normRows_wrs, Qs, if_true, List.append_nil, List.nodup_nil, Nat.reduceAdd, Nat.reduceMul, Nat.reduceLT, Nat.reduceBEq]
            exact fin_T hS (norm_s _) (norm_w _) rfl
          · rw [if_pos hz] at hS
            simp only [resD, dV, encD, hz, normRows_strs, normRows_wrs, Qs, if_true, if_false, forall_const, List.append_nil, List.nodup_nil, Nat.reduceAdd, Nat.reduceMul, Nat.reduceLT, Nat.reduceBEq, id @f11r3o0.eq_1, id @f11r3o1.eq_1, id @f11r3o2.eq_1, id @f11r3o3.eq_1, id @f11r3o4.eq_1, id @f11r3o5.eq_1, id @f11r3o6.eq_1, id @f11r3o7.eq_1, id @f11r3o8.eq_1, id @f11r3o9.eq_1, id @f11r3o10.eq_1, id @f11r3o11.eq_1, utf11r3, uu f11b4.eq_1, id @f11r5.eq_1, uu f11b6.eq_1, uu f11b7.eq_1, id @f11r8.eq_1, uu f11b9.eq_1, uu f11b10.eq_1]
            exact fin_T hS (norm_s _) (norm_w _) rfl
  · rw [if_pos he] at hS
    simp only [he, normRows_strs, normRows_wrs, Qs, forall_const]
    exact fin_T hS (secs := []) (pend := []) rfl rfl rfl
end Go.Abs


set_option maxRecDepth 100000
set_option maxHeartbeats 4000000
namespace Go.Abs
open Go.Proofs Go.Wire Go.RowKit Go.Jr
def fitsB (l : List Txt) (most : Int) : Bool := l.all (fun s => decide (s.length ≤ 100)) && decide ((l.length : Int) ≤ most)
theorem l8 (l : List Txt) (most : Int) : Spec Tryd.prog 8 [lst 1 (strs l), .int .i64 most] (fun r => r = .bool (fitsB l most)) := by
  refine Spec.of_len hf8 fun hlen => ?_
  have hl := len_lst (sz := 1) (rows := strs l) List.mem_cons_self hlen
  rw [strs_len] at hl
  clear hlen
  refine Spec.of_awlS hf8 okf8 (by simp) fun S hS => ?_
  simp only [Qs, Nat.reduceAdd, uu f8.eq_1, uu f8b16.eq_1, id @f8r17.eq_1, uu f8b18.eq_1, uu f8b19.eq_1, id @f8r20.eq_1, uu f8b21.eq_1]
  rw [uf8l15]
  refine awl_loop (fun i : Nat => [(0, lst 1 (strs l)), (1, .int .i64 most), (5, .int .i64 i)]) (fun _ => []) (fun i => i ≤ l.length ∧ (l.take i).all (fun s => decide (s.length ≤ 100)) = true) (fun i => l.length - i) 0 rfl rfl ⟨Nat.zero_le _, rfl⟩ ?_
  rintro i ⟨hi, hd⟩
  by_cases hlt : i < l.length
  · have c1 : (i : Int) < l.length := by omega
    have c4 : IntKind.i64.wrap ((i : Int) + 1) = (i : Int) + 1 := wrap_in (by omega) (by omega)
    by_cases h1 : (l[i].length : Int) > 100
    · simp only [c1, c4, h1, strs_len, strs_at hlt, Qs, if_true, List.nodup_nil, Nat.reduceBEq, id @f8r3.eq_1, id @f8r4.eq_1, uu f8b5.eq_1, uu f8b6.eq_1, id @f8r7.eq_1, uu f8b8.eq_1, uu f8b9.eq_1, uu f8b10.eq_1, uu f8b11.eq_1, id @f8r12.eq_1, uu f8b13.eq_1, uu f8b14.eq_1]
      refine fin hS ?_
      have : l.all (fun s => decide (s.length ≤ 100)) = false := by
        rw [List.all_eq_false]
        exact ⟨l[i], List.getElem_mem hlt, by simp; omega⟩
      rw [fitsB, this]; rfl
    · simp only [c1, c4, h1, strs_len, strs_at hlt, Qs, if_true, Nat.reduceBEq, id @f8r3.eq_1, uu f8b6.eq_1, id @f8r7.eq_1, uu f8b8.eq_1, uu f8b9.eq_1, uu f8b10.eq_1, uu f8b11.eq_1, id @f8r12.eq_1, uu f8b13.eq_1, uu f8b14.eq_1]
      refine Next.intro (i + 1) rfl rfl ⟨by omega, ?_⟩ (by omega)
      rw [List.take_add_one, List.getElem?_eq_getElem hlt, List.all_append, hd]
      simp; omega
  · have c1 : ¬ (i : Int) < l.length := by omega
    simp only [c1, strs_len, Qs, if_true, List.nodup_nil, Nat.reduceBEq, id @f8r1.eq_1, uu f8b2.eq_1, uu f8b11.eq_1, id @f8r12.eq_1, uu f8b13.eq_1, uu f8b14.eq_1]
    refine fin hS ?_
    rw [List.take_of_length_le (by omega)] at hd
    rw [fitsB, hd, Bool.true_and]
theorem right_down {secs : List Txt} (h : Right ⟨secs, [], -1, false⟩) : Right ⟨secs, [], -1, true⟩ := ⟨h.lo, h.hi, h.pe, h.l0, h.l1, fun _ => ⟨rfl, rfl⟩, h.se, h.wr⟩
theorem armed {d : Disk} {l : List Txt} {c : Nat} (h : Jr.Inv d l c) {k : Int} (h0 : 0 ≤ k) (h1 : k ≤ 512) : Jr.Inv ⟨d.secs, d.pend, k, d.down⟩ l c :=
  ⟨⟨h.right.lo, h.right.hi, h.right.pe, by show -1 ≤ k; omega, h1, fun e => absurd (h.up.symm.trans e) (by simp), h.right.se, h.right.wr⟩, h.up, h.pe, h.n3, h.len, h.each, h.fit, h.holds, h.c01, h.hd, h.ot⟩
theorem right_new {n : Nat} (h0 : 1 ≤ n) (h : n ≤ 512) : Right (newD n) := by
  refine ⟨by simp [newD]; omega, by simp [newD]; omega, by simp [newD], by simp [newD], by simp [newD], fun e => absurd e (by simp [newD]), ?_, fun w hw => absurd hw (by simp [newD])⟩
  intro s hs
  rw [(List.mem_replicate.1 hs).2]
  rfl
theorem l7 : Spec Tryd.prog 7 [] (fun r => r = .bool true) := by
  refine Spec.of_awlS hf7 okf7 (by simp) fun S hS => ?_
  have c16 := r16 5 (by decide) (by decide)
  have hRn := right_new (n := 5) (by decide) (by decide)
  have c20n := b20 _ hRn
  rw [show readJ (newD 5) = (⟨[], [], 0⟩, 22) by kernel_rfl] at c20n
  have c17 := b17 _ hRn
  obtain ⟨a, ha, ia, sa, la, _⟩ := format_ok (n := 5) (by decide) (by decide)
  rw [ha] at c17
  obtain ⟨b, hb, ib, sb, lb, _⟩ := append_ok ia (s := [97, 98]) (by decide) (by decide) (by rw [sa]; exact Nat.le_of_ble_eq_true (by kernel_rfl)) (.inl la)
  have lb := lb la
  obtain ⟨c, hc, ic, sc, lc, _⟩ := append_ok ib (s := []) (by decide) (by decide) (by rw [sb, sa]; exact Nat.le_of_ble_eq_true (by kernel_rfl)) (.inl lb)
  have lc := lc lb
  have c11a := b11 _ ia.right [97, 98] (by decide)
  rw [hb] at c11a
  have c11b := b11 _ ib.right [] (by decide)
  rw [hc] at c11b
  have c20c := b20 _ ic.right
  have c24c := b24 _ ic.right
  have c22c := b22 _ ic.right 0
  rw [ic.read] at c20c c24c c22c
  have c22c : Spec Tryd.prog 22 [dV c, .int .i64 0] (fun r => r = .tup [.str [97, 98], .int .i64 0]) := c22c
  have c24c : Spec Tryd.prog 24 [dV c] (fun r => r = .tup [.int .i64 2, .int .i64 0]) := c24c
  have c20c : Spec Tryd.prog 20 [dV c] (fun r => r = .tup [lst 1 (strs [[97, 98], []]), .int .i64 0]) := c20c
  have cSS := w26 [[97, 98], []] [[97, 98], []]
  rw [decide_eq_true rfl] at cSS
  have c25 := r25 _ ic.right 1
  rw [show armD c 1 = (⟨c.secs, c.pend, 1, c.down⟩, 0) by rw [armD, if_neg (by simp [ic.up]), if_neg (by decide)]] at c25
  have ix := armed ic (k := 1) (by decide) (by decide)
  obtain ⟨zs, hz, iz, sz⟩ := append_cut ix (s := [99]) (by decide) (by decide) (by show _ ≤ 16 * (c.secs.length - 2); rw [sc, sb, sa]; exact Nat.le_of_ble_eq_true (by kernel_rfl)) (by show (0 : Int) ≤ 1; decide) (by show (1 : Int) ≤ ((dataW ([] ++ [[97, 98]] ++ [[]]) [99]).length : Int); exact Int.ofNat_le.2 (Nat.le_of_ble_eq_true (by kernel_rfl)))
  have c11x := b11 _ ix.right [99] (by decide)
  rw [hz] at c11x
  have c26 := r26 _ (right_down iz.right)
  rw [show startD ⟨zs, [], -1, true⟩ = (⟨zs, [], -1, false⟩, 0) from rfl] at c26
  have c20z := b20 _ iz.right
  rw [iz.read] at c20z
  have c20z : Spec Tryd.prog 20 [dV ⟨zs, [], -1, false⟩] (fun r => r = .tup [lst 1 (strs [[97, 98], []]), .int .i64 0]) := c20z
  simp only [resD, dV, encD] at *
  simp only [normRows_strs, normRows_wrs, Qs, uu f7.eq_1, id @f7r27.eq_1, uu f7b28.eq_1, id @f7r29.eq_1, uu f7b30.eq_1]
  refine call_r c16 ?_
  simp only [normRows_strs, normRows_wrs, Qs, if_true, List.append_nil, Nat.reduceAdd, Nat.reduceMul, Nat.reduceBEq, id @f7r25.eq_1, uu f7b26.eq_1]
  refine call_r c20n ?_
  simp only [normRows_strs, normRows_wrs, Qs, if_true, List.append_nil, Nat.reduceAdd, Nat.reduceMul, Nat.reduceBEq, id @f7r23.eq_1, uu f7b24.eq_1]
  refine call_r c17 ?_
  simp only [normRows_strs, normRows_wrs, Qs, if_true, bne_iff_ne, ne_eq, List.append_nil, Nat.reduceAdd, Nat.reduceMul, Nat.reduceEqDiff, Nat.reduceBEq, id @f7r21.eq_1, uu f7b22.eq_1]
  refine call_r c11a ?_
  simp only [normRows_strs, normRows_wrs, Qs, if_true, bne_iff_ne, ne_eq, List.append_nil, Nat.reduceAdd, Nat.reduceMul, Nat.reduceEqDiff, Nat.reduceBEq, id @f7r19.eq_1, uu f7b20.eq_1]
  refine call_r c11b ?_
  simp only [normRows_strs, normRows_wrs, Qs, if_true, bne_iff_ne, ne_eq, List.append_nil, Nat.reduceAdd, Nat.reduceMul, Nat.reduceEqDiff, Nat.reduceBEq, id @f7r17.eq_1, uu f7b18.eq_1]
  refine call_r c20c ?_
  simp only [normRows_strs, normRows_wrs, Qs, if_true, List.append_nil, Nat.reduceAdd, Nat.reduceMul, Nat.reduceBEq, id @f7r15.eq_1, uu f7b16.eq_1]
  refine call_s c24c ?_
  simp only [normRows_strs, normRows_wrs, Qs, if_true, Nat.reduceAdd, Nat.reduceBEq, id @f7r13.eq_1, uu f7b14.eq_1]
  refine call_r c25 ?_
  simp only [normRows_strs, normRows_wrs, Qs, if_true, bne_iff_ne, ne_eq, List.append_nil, Nat.reduceAdd, Nat.reduceMul, Nat.reduceEqDiff, Nat.reduceBEq, id @f7r11.eq_1, uu f7b12.eq_1]
  refine call_r c11x ?_
  simp only [normRows_strs, normRows_wrs, Qs, if_true, bne_iff_ne, ne_eq, Int.reduceNeg, List.append_nil, Nat.reduceAdd, Nat.reduceMul, Nat.reduceEqDiff, Nat.reduceBEq, id @f7r9.eq_1, uu f7b10.eq_1]
  refine call_r c26 ?_
  simp only [normRows_strs, normRows_wrs, Qs, if_true, bne_iff_ne, ne_eq, Int.reduceNeg, List.append_nil, Nat.reduceAdd, Nat.reduceMul, Nat.reduceEqDiff, Nat.reduceBEq, id @f7r7.eq_1, uu f7b8.eq_1]
  refine call_r c20z ?_
  simp only [normRows_strs, normRows_wrs, Qs, if_true, Int.reduceNeg, List.append_nil, Nat.reduceAdd, Nat.reduceMul, Nat.reduceBEq, id @f7r5.eq_1, uu f7b6.eq_1]
  refine call_s c22c ?_
  simp only [normRows_strs, normRows_wrs, Qs, q_AOp_dst_eq_7, q_exL_eq_7, q_bsK_eq_1, q_List_set_cons_succ, if_true, forall_eq_or_imp, forall_eq, bne_iff_ne, ne_eq, Int.reduceNeg, BEq.rfl, List.mem_cons, Nat.reduceEqDiff, Nat.reduceLT, Nat.reduceBEq, List.not_mem_nil, id @f7r1.eq_1, uu f7b2.eq_1, id @f7r3.eq_1, uu f7b4.eq_1]
  refine call_s cSS ?_ (ha := by simp [lendL, lendO, lookO, V.norm, norm_list, lst]; rfl)
  simp only [normRows_strs, normRows_wrs, Qs, if_true, Int.reduceNeg, BEq.rfl, Nat.reduceBEq]
  refine call_s cSS ?_
  simp only [normRows_strs, normRows_wrs, Qs, q_C_normRows_eq_2, if_true, Int.reduceNeg, BEq.rfl, List.nodup_nil, Nat.reduceBEq]
  exact hS
end Go.Abs


set_option maxRecDepth 100000
set_option maxHeartbeats 4000000
namespace Go.Abs
open Go.Proofs Go.Wire Go.RowKit Go.Jr
def wayD (n : Nat) (l : List Txt) : Nat → Disk
  | 0 => (formatJ (newD n)).1
  | i + 1 => (appendJ (wayD n l i) (l.getD i [])).1
structure Whole (n : Nat) (d : Disk) (l : List Txt) : Prop where
  ex : ∃ c m, Jr.Inv d l c ∧ m ≤ (wN wS l).length ∧ d.secs.getD (1 - c) [] = hdr m
  secs : d.secs.length = n
  left : d.left = -1
theorem wN_take_le (l : List Txt) : ∀ i, (wN wS (l.take i)).length ≤ (wN wS l).length := by
  intro i
  have : l.take i ++ l.drop i = l := List.take_append_drop i l
  have h := wN_app wS (l.take i) (l.drop i)
  rw [this] at h
  rw [h, List.length_append]; omega
theorem way_start {n : Nat} (h3 : 3 ≤ n) (hn : n ≤ 512) : formatJ (newD n) = ((formatJ (newD n)).1, 0) ∧ Whole n (formatJ (newD n)).1 [] := by
  obtain ⟨d, hd, hi, h1, h2, h4⟩ := format_ok h3 hn
  rw [hd]
  exact ⟨rfl, ⟨0, 0, hi, Nat.zero_le _, h4⟩, h1, h2⟩
theorem way_next {n : Nat} {d : Disk} {l : List Txt} {s : Txt} (h : Whole n d l) (hs : s.length ≤ 2000) (hl : l.length < 500) (hf : (wN wS l ++ wS s).length ≤ 16 * (n - 2)) : appendJ d s = ((appendJ d s).1, 0) ∧ Whole n (appendJ d s).1 (l ++ [s]) := by
  obtain ⟨⟨c, m, hi, hm, ho⟩, h1, h2⟩ := h
  obtain ⟨d', hd, hi', e1, e2, e3⟩ := append_ok hi hs hl (by rw [h1]; exact hf) (.inl h2)
  rw [hd]
  have hcc : 1 - (1 - c) = c := by rcases hi.c01 with rfl | rfl <;> rfl
  refine ⟨rfl, ⟨1 - c, (wN wS l).length, hi', ?_, by rw [hcc]; exact e3⟩, e1.trans h1, e2 h2⟩
  rw [wN_app, List.length_append]; omega
theorem way_ok {n : Nat} (h3 : 3 ≤ n) (hn : n ≤ 512) {l : List Txt} (hl : l.length ≤ 500) (hs : ∀ s ∈ l, s.length ≤ 2000) (hf : (wN wS l).length ≤ 16 * (n - 2)) : ∀ i, i ≤ l.length → Whole n (wayD n l i) (l.take i)
  | 0, _ => by rw [List.take_zero]; exact (way_start h3 hn).2
  | i + 1, hi => by
    have hlt : i < l.length := by omega
    have ih := way_ok h3 hn hl hs hf i (by omega)
    have e : l.getD i [] = l[i] := by rw [List.getD_eq_getElem?_getD, List.getElem?_eq_getElem hlt]; rfl
    have e2 : l.take (i + 1) = l.take i ++ [l[i]] := by rw [List.take_add_one, List.getElem?_eq_getElem hlt]; rfl
    rw [wayD, e, e2]
    refine (way_next ih (hs _ (List.getElem_mem hlt)) (by rw [List.length_take]; omega) ?_).2
    have := wN_take_le l (i + 1)
    rw [e2, wN_app, wN_one] at this
    omega
theorem way_step {n : Nat} (h3 : 3 ≤ n) (hn : n ≤ 512) {l : List Txt} (hl : l.length ≤ 500) (hs : ∀ s ∈ l, s.length ≤ 2000) (hf : (wN wS l).length ≤ 16 * (n - 2)) {i : Nat} (hlt : i < l.length) : appendJ (wayD n l i) l[i] = (wayD n l (i + 1), 0) := by
  have ih := way_ok h3 hn hl hs hf i (by omega)
  have e : l.getD i [] = l[i] := by rw [List.getD_eq_getElem?_getD, List.getElem?_eq_getElem hlt]; rfl
  have e2 : l.take (i + 1) = l.take i ++ [l[i]] := by rw [List.take_add_one, List.getElem?_eq_getElem hlt]; rfl
  rw [wayD, e]
  refine (way_next ih (hs _ (List.getElem_mem hlt)) (by rw [List.length_take]; omega) ?_).1
  have := wN_take_le l (i + 1)
  rw [e2, wN_app, wN_one] at this
  omega
theorem Whole.right {n : Nat} {d : Disk} {l : List Txt} (h : Whole n d l) : Right d := by
  obtain ⟨c, m, hi, _⟩ := h.ex
  exact hi.right
theorem l9 (n : Nat) (h3 : 3 ≤ n) (hn : n ≤ 512) (l : List Txt) (hl : l.length ≤ 500) (hs : ∀ s ∈ l, s.length ≤ 2000) (hf : (wN wS l).length ≤ 16 * (n - 2)) :
    Spec Tryd.prog 9 [.int .i64 n, lst 1 (strs l)] (fun r => r = .tup [dV (wayD n l l.length), .bool true]) := by
  refine Spec.of_awlP hf9 okf9 (by simp) fun S hS => ?_
  have c16 := r16 n (by omega) hn
  have hRn := right_new (n := n) (by omega) hn
  have c17 := b17 _ hRn
  have hst := way_start h3 hn
  rw [hst.1] at c17
  simp only [resD, dV, encD] at c16 c17
  simp only [normRows_strs, normRows_wrs, Qs, Nat.reduceAdd, Nat.reduceBEq, uu f9.eq_1, id @f9r18.eq_1, uu f9b19.eq_1, id @f9r20.eq_1, uu f9b21.eq_1]
  refine call_r c16 ?_
  simp only [normRows_strs, normRows_wrs, Qs, if_true, bne_iff_ne, ne_eq, List.append_nil, Nat.reduceAdd, Nat.reduceMul, Nat.reduceEqDiff, Nat.reduceBEq, id @f9r16.eq_1, uu f9b17.eq_1]
  refine call_r c17 ?_
  simp only [normRows_strs, normRows_wrs, Qs, bne_iff_ne, ne_eq, List.append_nil, Nat.reduceAdd, Nat.reduceMul, Nat.reduceEqDiff, Nat.reduceBEq, uu f9b12.eq_1, id @f9r13.eq_1, uu f9b14.eq_1, uu f9b15.eq_1]
  rw [uf9l11]
  refine awl_loop (fun i : Nat => [(1, lst 1 (strs l)), (4, .k (.ptr 4 0)), (8, .k (.ptr 8 0)), (9, .int .i64 0), (10, .int .i64 i)])
    (fun i => [(4, .var 27 [.c (.list 0 (some true) []), .c (.list 0 (some true) []), .c (.int .i64 0), .c (.bool false)]), (8, objC (wayD n l i).secs (wayD n l i).pend (wayD n l i).left (wayD n l i).down)])
    (fun i => i ≤ l.length) (fun i => l.length - i) 0 rfl rfl (Nat.zero_le _) ?_
  intro i hi
  by_cases hlt : i < l.length
  · have c1 : (i : Int) < l.length := by omega
    have c4 : IntKind.i64.wrap ((i : Int) + 1) = (i : Int) + 1 := wrap_in (by omega) (by omega)
    have hR := (way_ok h3 hn hl hs hf i hi).right
    have c11 := b11 _ hR l[i] (by have := hs _ (List.getElem_mem hlt); omega)
    rw [way_step h3 hn hl hs hf hlt] at c11
    simp only [c1, c4, strs_len, strs_at hlt, normRows_strs, normRows_wrs, Qs, if_true, BEq.rfl, Nat.reduceAdd, Nat.reduceBEq, id @f9r3.eq_1, id @f9r4o0.eq_1, id @f9r4o1.eq_1, id @f9r4o2.eq_1, id @f9r4o3.eq_1, id @f9r4o4.eq_1, id @f9r4o5.eq_1, id @f9r4o6.eq_1, id @f9r4o7.eq_1, id @f9r4o8.eq_1, id @f9r4o9.eq_1, id @f9r4o10.eq_1, utf9r4, uu f9b5.eq_1, uu f9b6.eq_1, uu f9b7.eq_1, id @f9r8.eq_1, uu f9b9.eq_1, uu f9b10.eq_1]
    refine callQ_R c11 ?_ rfl (by simp [lendL, V.norm, C.normRow, dV, encD, norm_list, norm_lst, normRows_strs, normRows_wrs]) rfl
    simp only [resD, dV, encD, c4, normRows_strs, normRows_wrs, Qs, if_true, List.append_nil, Nat.reduceAdd, Nat.reduceBEq]
    exact Next.intro (i + 1) rfl rfl (by omega) (by omega)
  · obtain rfl : i = l.length := by omega
    have c1 : ¬ (l.length : Int) < l.length := by omega
    simp only [c1, strs_len, normRows_strs, normRows_wrs, Qs, if_true, BEq.rfl, List.append_nil, List.nodup_nil, Nat.reduceAdd, Nat.reduceLT, Nat.reduceBEq, id @f9r1.eq_1, uu f9b2.eq_1, uu f9b7.eq_1, id @f9r8.eq_1, uu f9b9.eq_1, uu f9b10.eq_1]
    refine hS _ ?_
    simp only [V.fz, V.nrm, V.fzL, V.nrmL, Abs.K.fz, Abs.K.nrm, C.normRow, norm_s, norm_w, norm_int, norm_bool, dV, encD]
end Go.Abs


set_option maxRecDepth 100000
set_option maxHeartbeats 4000000
namespace Go.Abs
open Go.Proofs Go.Wire Go.RowKit Go.Jr
theorem fits_yes {l : List Txt} {k : Int} (h : fitsB l k = true) : (∀ s ∈ l, s.length ≤ 100) ∧ (l.length : Int) ≤ k := by
  simpa [fitsB] using h
theorem wN_short : ∀ (l : List Txt), (∀ s ∈ l, s.length ≤ 100) → (wN wS l).length ≤ 121 * l.length
  | [], _ => by simp [wN]
  | s :: l, h => by
    have h1 := wN_short l fun x hx => h x (List.mem_cons_of_mem _ hx)
    have h2 := h s List.mem_cons_self
    have h3 := wS_le (s := s) (by omega)
    have e := wN_app wS [s] l
    rw [List.singleton_append, wN_one] at e
    rw [e, List.length_append, List.length_cons]
    omega
theorem Whole.heads {n : Nat} {d : Disk} {l : List Txt} (h : Whole n d l) : ∃ k0 k1, d.secs.getD 0 [] = hdr k0 ∧ d.secs.getD 1 [] = hdr k1 ∧ k0 ≤ (wN wS l).length ∧ k1 ≤ (wN wS l).length ∧ (k0 = (wN wS l).length ∨ k1 = (wN wS l).length) := by
  obtain ⟨c, m, hi, hm, ho⟩ := h.ex
  rcases hi.c01 with rfl | rfl
  · exact ⟨_, m, hi.hd, ho, Nat.le_refl _, hm, .inl rfl⟩
  · exact ⟨m, _, ho, hi.hd, hm, Nat.le_refl _, .inr rfl⟩
theorem l4 (l : List Txt) : Spec Tryd.prog 4 [lst 1 (strs l)] (fun r => r = .bool true) := by
  refine Spec.of_awlS hf4 okf4 (by simp) fun S hS => ?_
  simp only [Qs, uu f4.eq_1, id @f4r52.eq_1, uu f4b53.eq_1, id @f4r54.eq_1, uu f4b55.eq_1]
  refine call_s l7 ?_
  simp only [Qs, Nat.reduceBEq, id @f4r49.eq_1, uu f4b50.eq_1, uu f4b51.eq_1]
  refine call_s (l8 l 8) ?_
  cases hfit : fitsB l 8 with
  | false =>
    simp only [Qs, List.nodup_nil, Nat.reduceBEq, id @f4r46.eq_1, uu f4b47.eq_1, uu f4b48.eq_1]
    exact hS
  | true =>
    obtain ⟨f1, f2⟩ := fits_yes hfit
    have hsh := wN_short l f1
    have h2000 : ∀ s ∈ l, s.length ≤ 2000 := fun s hs => by have := f1 s hs; omega
    have c9 := l9 80 (by decide) (by decide) l (by omega) h2000 (by omega)
    have hW := way_ok (n := 80) (by decide) (by decide) (l := l) (by omega) h2000 (by omega) l.length (Nat.le_refl _)
    rw [List.take_length] at hW
    generalize wayD 80 l l.length = D at c9 hW
    obtain ⟨c, m, hi, hm, ho⟩ := hW.ex
    have hsec := hW.secs
    have hR := hi.right
    have hup := hi.up
    have hpe := hi.pe
    obtain ⟨k0, k1, g0, g1, b0, b1, bb⟩ := hW.heads
    have c13 := r13 _ hR
    have hlt := log_take hR.se hi.holds hi.fit
    have hll := log_len hR.se
    simp only [dV, encD] at c9 c13
    simp only [Qs, Nat.reduceBEq, id @f4r44.eq_1, uu f4b45.eq_1, uu f4b48.eq_1]
    refine call_r c9 ?_
    have q0 : (D.secs.length : Int) = 80 := by omega
    simp only [hpe, hup, q0, strs_len, wrs_len, List.length_nil, normRows_strs, normRows_wrs, Qs, if_true, if_false, List.append_nil, Nat.reduceAdd, Nat.reduceMul, Nat.reduceLeDiff, Nat.reduceBEq, Int.reduceGT, Int.reduceBNe, uu f4b32.eq_1, id @f4r33.eq_1, uu f4b34.eq_1, uu f4b35.eq_1, id @f4r36.eq_1, uu f4b37.eq_1, uu f4b40.eq_1, id @f4r41.eq_1, uu f4b42.eq_1, uu f4b43.eq_1]
    rw [hup, hpe] at c13
    rw [uf4l31]
    refine awl_loop (fun i : Nat => [(0, lst 1 (strs l)), (3, .bool true), (4, .k (.ptr 4 0)), (6, .str (wN wS (l.take i))), (7, .int .i64 i)]) (fun _ => [(4, objC D.secs [] D.left false)]) (fun i => i ≤ l.length) (fun i => l.length - i) 0 rfl rfl (Nat.zero_le _) ?_
    intro i hil
    by_cases hlt2 : i < l.length
    · have c1 : (i : Int) < l.length := by omega
      have c4 : IntKind.i64.wrap ((i : Int) + 1) = (i : Int) + 1 := wrap_in (by omega) (by omega)
      have e2 : l.take (i + 1) = l.take i ++ [l[i]] := by rw [List.take_add_one, List.getElem?_eq_getElem hlt2]; rfl
      have hi1 := f1 _ (List.getElem_mem hlt2)
      have hw1 := wN_take_le l i
      have hs1 := wS_le (s := l[i]) (by omega)
      have e3 : wN wS (l.take i) ++ wS l[i] = wN wS (l.take (i + 1)) := by rw [e2, wN_app, wN_one]
      simp only [c1, c4, strs_len, strs_at hlt2, normRows_strs, Qs, if_true, Nat.reduceBEq, id @f4r23.eq_1, id @f4r24.eq_1, uu f4b25.eq_1, uu f4b26.eq_1, uu f4b27.eq_1, id @f4r28.eq_1, uu f4b29.eq_1, uu f4b30.eq_1]
      refine call_s (w11 l[i] (by omega)) ?_
      simp only [c1, c4, e3, strs_len, strs_at hlt2, normRows_strs, Qs, if_true, Nat.reduceBEq]
      exact ⟨by omega, Next.intro (i + 1) rfl rfl (by omega) (by omega)⟩
    · obtain rfl : i = l.length := by omega
      have c1 : ¬ (l.length : Int) < l.length := by omega
      have g0' := strs_at (l := D.secs) (i := 0) (by omega)
      have g1' := strs_at (l := D.secs) (i := 1) (by omega)
      have s0 : D.secs[0] = hdr k0 := by rw [← g0, List.getD_eq_getElem?_getD, List.getElem?_eq_getElem (by omega)]; rfl
      have s1 : D.secs[1] = hdr k1 := by rw [← g1, List.getD_eq_getElem?_getD, List.getElem?_eq_getElem (by omega)]; rfl
      rw [s0] at g0'
      rw [s1] at g1'
      simp only [c1, strs_len, List.take_length, normRows_strs, normRows_wrs, Qs, if_true, Nat.reduceAdd, Nat.reduceBEq, id @f4r21.eq_1, uu f4b22.eq_1, uu f4b27.eq_1, id @f4r28.eq_1, uu f4b29.eq_1, uu f4b30.eq_1]
      refine call_s c13 ?_
      have hlog : logD ⟨D.secs, [], D.left, false⟩ = logD D := rfl
      simp only [logD] at hlt hll ⊢
      generalize (D.secs.drop 2).flatten = log at hlt hll ⊢
      have b5 : ¬ (log.length : Int) < (wN wS l).length := by omega
      have b6 : ((wN wS l).length : Int) ≤ log.length := by omega
      have q1 : (0 : Int) < D.secs.length := by omega
      have q2 : (1 : Int) < D.secs.length := by omega
      simp only [b5, b6, hlt, q1, q2, g0', g1', strs_len, normRows_strs, normRows_wrs, Qs, if_true, if_false, BEq.rfl, Nat.reduceAdd, Nat.reduceLeDiff, Nat.reduceBEq, Int.reduceLE, Int.reduceToNat, id @f4r9.eq_1, uu f4b10.eq_1, id @f4r11.eq_1, uu f4b12.eq_1, id @f4r13.eq_1, uu f4b14.eq_1, uu f4b17.eq_1, id @f4r18.eq_1, uu f4b19.eq_1, uu f4b20.eq_1]
      have n0 : Spec Tryd.prog 15 [.str (hdr k0)] (fun r => r = .int .i64 (k0 : Int)) := by
        have := r15 (hdr k0) (hdr_len _)
        rw [num_hdr (by omega)] at this
        exact this
      have n1 : Spec Tryd.prog 15 [.str (hdr k1)] (fun r => r = .int .i64 (k1 : Int)) := by
        have := r15 (hdr k1) (hdr_len _)
        rw [num_hdr (by omega)] at this
        exact this
      have t0 : (k0 : Int) ≥ 0 := by omega
      have t1 : (k1 : Int) ≥ 0 := by omega
      have t2 : (k0 : Int) ≤ (wN wS l).length := by omega
      have t3 : (k1 : Int) ≤ (wN wS l).length := by omega
      refine call_s (r14 (wN wS l).length (by omega)) ?_
      generalize hK : (wN wS l).length = K at bb t2 t3 ⊢
      by_cases he : hdr k0 = hdr K
      · simp only [he, Qs, BEq.rfl, Nat.reduceBEq, id @f4r1.eq_1, uu f4b2.eq_1, uu f4b5.eq_1, id @f4r6.eq_1, uu f4b7.eq_1, uu f4b8.eq_1]
        rw [he] at n0
        refine call_s n0 ?_
        simp only [t0, hK, Qs, if_true, Nat.reduceBEq]
        refine call_s n0 ?_
        simp only [t2, hK, Qs, if_true, Nat.reduceBEq]
        refine call_s n1 ?_
        simp only [t1, hK, Qs, if_true, Nat.reduceBEq]
        refine call_s n1 ?_
        simp only [t3, hK, Qs, if_true, List.nodup_nil, Nat.reduceBEq]
        exact hS
      · have he2 : hdr k1 = hdr K := by
          rcases bb with rfl | rfl
          · exact absurd rfl he
          · rfl
        simp only [he, he2, Qs, if_true, forall_const, BEq.rfl, Nat.reduceBEq, id @f4r1.eq_1, uu f4b2.eq_1, uu f4b5.eq_1, id @f4r6.eq_1, uu f4b7.eq_1, uu f4b8.eq_1]
        rw [he2] at n1
        refine call_s n0 ?_
        simp only [t0, hK, Qs, if_true, Nat.reduceBEq]
        refine call_s n0 ?_
        simp only [t2, hK, Qs, if_true, Nat.reduceBEq]
        refine call_s n1 ?_
        simp only [t1, hK, Qs, if_true, Nat.reduceBEq]
        refine call_s n1 ?_
        simp only [t3, hK, Qs, if_true, List.nodup_nil, Nat.reduceBEq]
        exact hS
end Go.Abs


set_option maxRecDepth 100000
namespace Go.Abs
open Go.Wire
section
variable {P : Program}
theorem arg_ss {n : Nat} {t e : TypeId} {r : List C} (ht : P.underlying t = some (.slice e)) (he : P.underlying e = some .string) (hc : P.cellsOf e = 1) (hr : Shape P n t r) : ∃ l : List Txt, argV P t r = lst 1 (strs l) := by
  obtain ⟨m, rows, rfl, rfl, _, h⟩ := shape_slice ht hr
  obtain ⟨l, rfl⟩ := rows_of encS (fun r hr => by obtain ⟨x, rfl, _⟩ := shape_str he hr; exact ⟨x, rfl⟩) rows h
  exact ⟨l, by simp only [argV, ht, hc]; rfl⟩
end
theorem ifc_trod {H : Type} {enc : TypeId × Value → H} {P : Program} {w : World} {base : Nat} {sp : Nat → Bool} {held : Bool} {fuel : Nat} {t : TypeId} {ms : Array (String × TypeId)} {cs : List Value} {x : DataW H × List MemPlace}
    (ht : P.underlying t = some (.interface ms)) (h : DataW.trod enc P w base sp held fuel t cs = some x) : ∃ v, cs = [v] ∧ (v = .nilIface ∨ ∃ t p, v = .iface t p) := by
  cases fuel with
  | zero => simp [DataW.trod] at h
  | succ n =>
    unfold DataW.trod at h
    rw [ht] at h
    split at h <;> simp_all
end Go.Abs
namespace Go.Proofs.YtdgcoipbcloieaaDoor
open Go.Abs Go.RowKit Go.ChangeShapes Go.WideShapes Go.ChangeAt Go.WideMaps Go.WideElems Go.Wire
theorem own : ownKnob Tryd.prog.godebug = none := by kernel_rfl
theorem kids : Kids Tryd.prog (· < Tryd.prog.types.size) := kids_rows (by kernel_rfl) (by kernel_rfl)
theorem full : ∀ t e, t < Tryd.prog.types.size → Tryd.prog.underlying t = some (.slice e) → 0 < Tryd.prog.cellsOf e := slices_full_of Tryd.prog (by kernel_rfl)
def plainTs : List TypeId := [3, 4, 9, 22]
theorem plainTs_ok : plainT Tryd.prog plainTs = true := by kernel_rfl
theorem plainTs_lt : ∀ t ∈ plainTs, t < Tryd.prog.types.size := by
  have : plainTs.all (fun t => decide (t < Tryd.prog.types.size)) = true := by kernel_rfl
  simpa using this
theorem one9 : Tryd.prog.cellsOf 9 = 1 := by kernel_rfl
abbrev laidL : List (String × DataW Unit) := Rows.journalBytesRow.laid
theorem block_of {W : World} {name : String} {g : Nat} {cs : Array Value} (hn : Tryd.prog.globalNamed name = some g) (hv : W.var? Tryd.prog name = some cs) : ∃ t f, W.heap[g]? = some (.cells cs t f) := by
  unfold World.var? at hv
  rw [hn, Option.bind_some] at hv
  split at hv
  · rename_i h
    cases hv
    exact ⟨_, _, h⟩
  · cases hv
theorem err_of {W : World} (h : laidMet Tryd.prog laidL W) {name : String} {g : Nat} {d : DataW Unit} (hn : Tryd.prog.globalNamed name = some g) (ht : (Tryd.prog.globals[g]?).map (·.type) = some 75) (hm : (name, d) ∈ laidL) :
    g < W.heap.size ∧ ∃ b, W.heap[g]? = some b ∧ cell0 (fun v => v = .nilIface ∨ ∃ t p, v = .iface t p) b := by
  obtain ⟨g', t', cs, fuel, p, hg, hty, hvar, hd⟩ := Lib.laidMet.reads h hm
  obtain rfl := Option.some.inj (hn.symm.trans hg)
  obtain rfl := Option.some.inj (ht.symm.trans hty)
  obtain ⟨v, e, hv⟩ := ifc_trod Tryd.underlying75 hd
  obtain ⟨t, f, hb⟩ := block_of hn hvar
  refine ⟨(Array.getElem?_eq_some_iff.1 hb).1, _, hb, v, ?_, hv⟩
  rw [← Array.getElem?_toList, e]; rfl
theorem glob_of {W : World} (hL : laidMetH Tryd.prog laidL W) (hsh : W.ShapedOpen Tryd.prog) : GlobB (Go.Abs.base W) := by
  rw [MakeChecks.laidMetH_plain _ _ _ (by kernel_rfl)] at hL
  refine ⟨(fun _ _ h => nomatch h), fun g p hg => ?_⟩
  match g, hg with
  | 0, hg =>
    cases hg
    obtain ⟨m, hm⟩ := cell_of_shapedOpen_int (zero := #[.int .i64 0]) (t := 3) (k := .i64) (g := 0) hsh (of_decide_eq_true (by kernel_rfl)) (by kernel_rfl) rfl (by kernel_rfl) (by kernel_rfl) Tryd.underlying3
    unfold World.cell? at hm
    cases hb : W.heap[0]? with
    | none => rw [hb] at hm; simp at hm
    | some ob =>
      refine ⟨(Array.getElem?_eq_some_iff.1 hb).1, ob, rfl, ?_⟩
      rw [hb] at hm
      cases ob with
      | cells cs t f => exact ⟨_, by simpa using hm, m, rfl⟩
      | _ => simp at hm
  | 2, hg => cases hg; exact err_of hL (name := "strconv.ErrSyntax") (by kernel_rfl) (by kernel_rfl) (.tail _ (.tail _ (.tail _ (.tail _ (.head _)))))
  | 3, hg => cases hg; exact err_of hL (name := "strconv.ErrRange") (by kernel_rfl) (by kernel_rfl) (.tail _ (.tail _ (.tail _ (.head _))))
  | 1, hg =>
    cases hg
    obtain ⟨g', t', cs, fuel, p, hg', hty, hvar, hd⟩ := Lib.laidMet.reads hL (n := "internal/strconv.uint64pow10") (.tail _ (.tail _ (.head _)))
    have hn : Tryd.prog.globalNamed "internal/strconv.uint64pow10" = some 1 := by kernel_rfl
    obtain rfl := Option.some.inj (hn.symm.trans hg')
    have hT : (Tryd.prog.globals[1]?).map (·.type) = some 112 := by kernel_rfl
    obtain rfl := Option.some.inj (hT.symm.trans hty)
    obtain ⟨t, f, hb⟩ := block_of hn hvar
    refine ⟨(Array.getElem?_eq_some_iff.1 hb).1, _, hb, ?_⟩
    have hd' : DataW.trod (fun _ => ()) Tryd.prog W 0 (fun _ => true) false fuel 112 cs.toList = some (Lib.tabData .u64 pow10T, p) := hd
    have e := Lib.cells_of_tab Tryd.underlying112 Tryd.underlying91 (by kernel_rfl) (by kernel_rfl) hd'
    show cs = _
    rw [← e]
theorem door_met (os : Os) (args : Array Value) : laidMetH Tryd.prog laidL ((World.doorLaid Tryd.prog 400 os).forCall (fun _ _ => 0) ⟨#[], args, []⟩).memory :=
  laidMetH_of_parts3 (fuel := 8) (laidMet_of_run' 8 (by kernel_rfl) (by kernel_rfl)) (by kernel_rfl) (by kernel_rfl)
end Go.Proofs.YtdgcoipbcloieaaDoor


set_option maxRecDepth 100000
namespace Go.Proofs.YtdgcoipbcloieaaDoor
open Go.Abs Go.RowKit Go.ChangeShapes Go.WideShapes Go.ChangeAt Go.WideMaps Go.WideElems Go.Wire
theorem spec4 (xs : List V) (h : ArgsOf Tryd.prog [22] xs) : Go.Abs.Spec Tryd.prog 4 xs (fun r => r = .bool true) := by
  match xs, h with
  | [a0], ⟨⟨_, _, h0, q0⟩, _⟩ =>
    obtain ⟨x0, e0⟩ := arg_ss Tryd.underlying22 Tryd.underlying9 one9 h0
    rw [q0, e0]
    exact l4 x0
theorem reads4 (os : Os) {H : Type} (enc : TypeId × Value → H) : ∃ places, DataW.whole enc Tryd.prog ((World.doorLaid Tryd.prog 400 os).forCall (fun _ _ => 0) ⟨#[], #[Value.slice none 0 0], []⟩).memory Tryd.f4.params.toList Rows.journalBytesSpec.vars false #[Value.slice none 0 0].toList 8 = some ([.nil], [], places) :=
  ⟨[], by kernel_rfl⟩
theorem lifted4 (os : Os) (started : os.Started) (H : Type) (enc : TypeId × Value → H) (F : Stop.Interp) :
    ReturnsInHanded {} Tryd.checked os 4 .any ((OpenSpec.ofChange Rows.journalBytesSpec).preRow enc Tryd.prog Tryd.f4 Rows.journalBytesRow.domain false Rows.journalBytesRow.laid) (((OpenSpec.ofChange Rows.journalBytesSpec).at F).post enc Tryd.prog Tryd.f4 false true false false) := by
  obtain ⟨places, hx⟩ := reads4 os enc
  refine returnsInHanded_of_row (C := Tryd.checked) (s := OpenSpec.ofChange Rows.journalBytesSpec) own started (by kernel_rfl) Tryd.func4
    (witness_row_atRef (enc := enc) (C := Tryd.checked) false (World.doorLaid Tryd.prog 400 os) #[Value.slice none 0 0] rfl (by kernel_rfl) (by kernel_rfl) (by kernel_rfl)
      (OpenSpec.preRow_of_cond 8 hx (by kernel_rfl) (fun k hk => by cases hk) (by kernel_rfl) (door_met os _))) ?_
  intro W base args ds gs before hval hW _ hcond _ hL hsh _
  refine law_contract (C := Tryd.checked) (T := plainTs) (tb := 4) (s := Rows.journalBytesSpec) plainTs_ok plainTs_lt ?_ kids full rfl ?_ ?_ Tryd.underlying4 ?_ W base args ds gs before hval hW (glob_of hL hsh)
  · rw [Tryd.params4]; decide
  · intro ds hds
    rw [Tryd.params4] at hds
    match ds, hds with
    | [a0], _ => rfl
  · kernel_rfl
  · intro xs hxs
    rw [Tryd.params4] at hxs
    exact spec4 xs hxs
theorem JournalBytes_row : Rows.JournalBytesSaid :=
  OpenClaim.holds_of_cond 4 Tryd.f4 rfl rfl rfl rfl rfl rfl rfl ⟨rfl, rfl, rfl, rfl, rfl⟩ rfl rfl rfl rfl rfl (by kernel_rfl) Tryd.func4 (by kernel_rfl)
    (of_decide_eq_true (by kernel_rfl)) (by unfold Func.isWrapper; first | (rw [if_pos (by decide +kernel)]; kernel_rfl) | (rw [if_neg (by decide +kernel)]; exact ⟨rfl, rfl⟩))
    (fun os started H enc _ F => by rw [OpenClaim.pre_eq_preRow]; exact lifted4 os started H enc F)
theorem JournalBytes_holds : Rows.JournalBytesCardSaid :=
  Claim7.holds_tied_plain_at .later [] _ _ _ _ JournalBytes_row (fun _ h => by cases h) (by kernel_rfl) (fun _ h => by cases h) journalBytes_row_tie rfl ⟨rfl, rfl⟩ (by kernel_rfl) rfl
    (fun f fn hf hfn => by
      obtain rfl : f = 4 := Option.some.inj ((show Tryd.prog.funcNamed "allonge/allongelaw08.JournalBytes" = some 4 by kernel_rfl).symm.trans hf) |>.symm
      obtain rfl : fn = Tryd.f4 := (Option.some.inj (Tryd.func4.symm.trans hfn)).symm
      exact ⟨by kernel_rfl, fun j t ht => by
        rw [Tryd.params4] at ht
        have hm : t ∈ [22] := by simpa using Array.mem_of_getElem? ht
        have hall : ([22].all fun u => !Tryd.prog.wantsStandIn u) = true := by kernel_rfl
        exact (show Tryd.prog.wantsStandIn t = false by simpa using List.all_eq_true.1 hall t hm)⟩)
    (by kernel_rfl)
end Go.Proofs.YtdgcoipbcloieaaDoor

