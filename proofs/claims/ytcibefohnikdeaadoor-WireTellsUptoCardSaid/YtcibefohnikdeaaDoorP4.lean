/- A part of the proof that WireTells returns true for all arguments of bulk at most 1048576; the last text states it. -/
import Derived.Test.YtcibefohnikdeaaDoorP3
import Derived.Test.YtcibefohnikdeaaDoorProg
import Derived.Shelf.Strconv.Itoa3
import Derived.Shelf.Strconv.AtoiAll
import Derived.Shelf.Strings.Cut
import Derived.Shelf.Strings.BuilderK
import Derived.Shelf.Strings.Builder1
import Derived.WalkKit
import Derived.BigCall
import Derived.OwnWalk
import Derived.Deep.QuietTactic
import Derived.BigQuiet
import Derived.Lib.IndexMore
import Derived.Test.YtcibefohnikdeaaDoorRows
import Derived.Test.YtcibefohnikdeaaDoorCards
import Derived.Test.YtcibefohnikdeaaDoorTie
import Derived.ProofKit
import Derived.DataShut
import Derived.LaidMore
import Derived.Lib.LaidTab
import Derived.Lib.LaidU8
import Derived.OpenShut
import Derived.SevenTiedAt
import Derived.Deep.DeepHandedRow
import Derived.Deep.DeepWitnessRowRef
import Derived.Shelf.Vars
set_option linter.unusedVariables false
set_option linter.unusedSimpArgs false
set_option maxRecDepth 100000
set_option maxHeartbeats 4000000
namespace Go.Abs
open Go.Proofs Go.Wire
theorem getD_at {s : Txt} {i : Nat} (h : i < s.length) : s.getD i 0 = s[i] := by simp [h]
theorem drop_at {s : Txt} {i : Nat} (h : i < s.length) : s.drop i = s.getD i 0 :: s.drop (i + 1) := by rw [getD_at h]; exact List.drop_eq_getElem_cons h
theorem refB_at {neg : Bool} {s : Txt} {fr i : Nat} {n : Int} (h : refD 0 (s.drop fr) = some (n, s.drop i)) (h1 : fr ≤ i) (h2 : i ≤ s.length) :
    refB neg (s.drop fr) = if i = fr ∨ i = s.length ∨ s.getD i 0 ≠ 59 ∨ (i > fr + 1 ∧ s.getD fr 0 = 48) then none
      else if neg = true ∧ n = 0 then none else if neg = true then some (n, s.drop (i + 1)) else if n = -9223372036854775808 then none else some (-n, s.drop (i + 1)) := by
  unfold refB
  rw [h, Option.bind_some]
  simp only [List.length_drop, List.drop_eq_nil_iff]
  have e1 : (s.length - i = s.length - fr) = (i = fr) := by apply propext; omega
  have e2 : (s.length ≤ i) = (i = s.length) := by apply propext; omega
  simp only [e1, e2]
  by_cases q1 : i = fr
  · rw [if_pos (.inl q1), if_pos (.inl q1)]
  by_cases q2 : i = s.length
  · rw [if_pos (.inr (.inl q2)), if_pos (.inr (.inl q2))]
  have hi : i < s.length := by omega
  have hf : fr < s.length := by omega
  have hd := drop_at hi
  have e3 : ((s.drop i).head? ≠ some 59) = (s.getD i 0 ≠ 59) := by rw [hd]; simp
  have e4 : (s.drop fr).head? = some (s.getD fr 0) := by rw [drop_at hf]; rfl
  have e5 : (s.length - fr - (s.length - i) > 1 ∧ (s.drop fr).head? = some 48) = (i > fr + 1 ∧ s.getD fr 0 = 48) := by
    rw [e4]; apply propext; simp only [Option.some.injEq]; constructor <;> rintro ⟨a, b⟩ <;> exact ⟨by omega, b⟩
  have e6 : (s.drop i).tail = s.drop (i + 1) := by rw [hd]; rfl
  simp only [e3, e5, e6]
theorem refD_at {n : Int} {s : Txt} {i : Nat} (h : i < s.length) : refD n (s.drop i) = if 48 ≤ (s.getD i 0).toNat ∧ (s.getD i 0).toNat ≤ 57 then
      (if n < -922337203685477580 ∨ n = -922337203685477580 ∧ ((s.getD i 0).toNat : Int) - 48 > 8 then none else refD (10 * n - (((s.getD i 0).toNat : Int) - 48)) (s.drop (i + 1)))
    else some (n, s.drop i) := by
  rw [drop_at h, refD]
def resI (r : Option (Int × Txt)) : V := match r with
  | some (n, r) => .tup [.int .i64 n, .str r, .bool true]
  | none => .tup [.int .i64 0, .str [], .bool false]
theorem tail18 {S : V → Prop} {s : Txt} {fr i : Nat} {n : Int} {ts : TS} (hs : s.length ≤ 1000000000000) (hf : fr ≤ 1) (h1 : fr ≤ i) (h2 : i ≤ s.length) (hn : -9223372036854775808 ≤ n) (hn0 : n ≤ 0)
    (t0 : lookT 0 ts = .str s) (t5 : lookT 5 ts = .int .i64 fr) (t6 : lookT 6 ts = .int .i64 i) (t7 : lookT 7 ts = .int .i64 n)
    (h : refD 0 (s.drop fr) = some (n, s.drop i)) (hS : S (resI (refB (decide (fr = 1)) (s.drop fr)))) : awl Tryd.prog f18b28 (endK [RX.t 2, RX.t 3, RX.t 4] S) ts [] := by
  rw [refB_at h h1 h2] at hS
  have w1 : IntKind.i64.wrap ((fr : Int) + 1) = (fr : Int) + 1 := wrap_in (by omega) (by omega)
  have w2 : IntKind.i64.wrap ((i : Int) + 1) = ((i + 1 : Nat) : Int) := by rw [wrap_in (by omega) (by omega)]; rfl
  by_cases q1 : i = fr
  · have c1 : (i : Int) = fr := by omega
    rw [if_pos (.inl q1)] at hS
    simp only [t0, t5, t6, t7, c1, Qs, if_true, BEq.rfl, List.append_nil, List.nodup_nil, Nat.reduceBEq, id @f18r23.eq_1, uu f18b24.eq_1, uu f18b25.eq_1, id @f18r26.eq_1, uu f18b27.eq_1, uu f18b28.eq_1]
    exact hS
  have c1 : ((i : Int) == fr) = false := by simp; omega
  by_cases q2 : i = s.length
  · have c2 : (i : Int) ≥ s.length := by omega
    rw [if_pos (.inr (.inl q2))] at hS
    simp only [t0, t5, t6, t7, c1, c2, Qs, if_true, if_false, List.append_nil, List.nodup_nil, Nat.reduceBEq, id @f18r23.eq_1, uu f18b24.eq_1, uu f18b25.eq_1, id @f18r26.eq_1, uu f18b27.eq_1, uu f18b28.eq_1]
    exact hS
  have c2 : ¬ (i : Int) ≥ s.length := by omega
  have c3 : (i : Int) < s.length := by omega
  have c4 : (fr : Int) < s.length := by omega
  by_cases q3 : s.getD i 0 = 59
  · have c5 : ((s.getD i 0).toNat : Int) = 59 := by rw [q3]; rfl
    by_cases q4 : i > fr + 1 ∧ s.getD fr 0 = 48
    · have c6 : (i : Int) > (fr : Int) + 1 := by omega
      have c7 : ((s.getD fr 0).toNat : Int) = 48 := by rw [q4.2]; rfl
      rw [if_pos (.inr (.inr (.inr q4)))] at hS
      simp only [t0, t5, t6, t7, c1, c2, c3, c4, c5, c6, c7, w1, w2, Qs, if_true, if_false, BEq.rfl, List.append_nil, List.nodup_nil, Nat.reduceBEq, Int.reduceBNe, id @f18r23.eq_1, uu f18b24.eq_1, uu f18b25.eq_1, id @f18r26.eq_1, uu f18b27.eq_1, uu f18b28.eq_1]
      exact hS
    · rw [if_neg (by simp [q1, q2, q3, -List.getD_eq_getElem?_getD]; exact fun h1 h2 => q4 ⟨h1, h2⟩)] at hS
      have b1 : (0 : Int) ≤ ((i + 1 : Nat) : Int) := by omega
      have b2 : ((i + 1 : Nat) : Int) ≤ s.length := by omega
      have e9 : (s.take s.length).drop (i + 1) = s.drop (i + 1) := by rw [List.take_length]
      by_cases q5 : i > fr + 1
      · have c6 : (i : Int) > (fr : Int) + 1 := by omega
        have c7 : (((s.getD fr 0).toNat : Int) == 48) = false := by
          have : (s.getD fr 0).toNat ≠ 48 := fun h => q4 ⟨q5, UInt8.toNat_inj.1 h⟩
          simp only [beq_eq_false_iff_ne, ne_eq]; omega
        simp only [t0, t5, t6, t7, c1, c2, c3, c4, c5, c6, c7, w1, w2, b1, b2, Qs, if_true, if_false, Int.reduceNeg, List.append_nil, List.nodup_nil, Nat.reduceBEq, Int.reduceBNe, id @f18r1.eq_1, uu f18b2.eq_1, id @f18r3.eq_1, uu f18b4.eq_1, uu f18b5.eq_1, id @f18r6.eq_1, uu f18b7.eq_1, uu f18b8.eq_1, id @f18r9.eq_1, uu f18b10.eq_1, uu f18b11.eq_1, id @f18r12.eq_1, uu f18b13.eq_1, uu f18b14.eq_1, id @f18r15.eq_1, uu f18b16.eq_1, uu f18b17.eq_1, id @f18r18.eq_1, uu f18b19.eq_1, uu f18b20.eq_1, id @f18r21.eq_1, uu f18b22.eq_1, uu f18b25.eq_1, id @f18r26.eq_1, uu f18b27.eq_1, uu f18b28.eq_1]
        rw [e9]
        refine ⟨Int.le_refl _, fun f1 => ?_, fun f1 => ?_⟩
        · have ff : fr = 1 := by omega
          refine ⟨fun z => ?_, fun z => ⟨fun _ => ?_, fun f => absurd f1 f⟩⟩
          · rw [if_pos ⟨by simp [ff], z⟩] at hS; exact hS
          · rw [if_neg (fun x => z x.2), if_pos (by simp [ff])] at hS; exact hS
        · have ff : fr ≠ 1 := by omega
          refine ⟨fun f => absurd f f1, fun _ => ⟨fun z => ?_, fun z => ?_⟩⟩
          · rw [if_neg (by simp [ff]), if_neg (by simp [ff]), if_pos z] at hS; exact hS
          · rw [if_neg (by simp [ff]), if_neg (by simp [ff]), if_neg z] at hS
            have hw : IntKind.i64.wrap (0 - n) = -n := by rw [wrap_in (by omega) (by omega)]; omega
            rw [hw]; exact hS
      · have c6 : ¬ (i : Int) > (fr : Int) + 1 := by omega
        simp only [t0, t5, t6, t7, c1, c2, c3, c4, c5, c6, w1, w2, b1, b2, Qs, if_true, if_false, Int.reduceNeg, List.append_nil, List.nodup_nil, Nat.reduceBEq, Int.reduceBNe, id @f18r1.eq_1, uu f18b2.eq_1, id @f18r3.eq_1, uu f18b4.eq_1, uu f18b5.eq_1, id @f18r6.eq_1, uu f18b7.eq_1, uu f18b8.eq_1, id @f18r9.eq_1, uu f18b10.eq_1, uu f18b11.eq_1, id @f18r12.eq_1, uu f18b13.eq_1, uu f18b14.eq_1, id @f18r15.eq_1, uu f18b16.eq_1, uu f18b17.eq_1, id @f18r18.eq_1, uu f18b19.eq_1, uu f18b20.eq_1, id @f18r21.eq_1, uu f18b22.eq_1, uu f18b25.eq_1, id @f18r26.eq_1, uu f18b27.eq_1, uu f18b28.eq_1]
        rw [e9]
        refine ⟨Int.le_refl _, fun f1 => ?_, fun f1 => ?_⟩
        · have ff : fr = 1 := by omega
          refine ⟨fun z => ?_, fun z => ⟨fun _ => ?_, fun f => absurd f1 f⟩⟩
          · rw [if_pos ⟨by simp [ff], z⟩] at hS; exact hS
          · rw [if_neg (fun x => z x.2), if_pos (by simp [ff])] at hS; exact hS
        · have ff : fr ≠ 1 := by omega
          refine ⟨fun f => absurd f f1, fun _ => ⟨fun z => ?_, fun z => ?_⟩⟩
          · rw [if_neg (by simp [ff]), if_neg (by simp [ff]), if_pos z] at hS; exact hS
          · rw [if_neg (by simp [ff]), if_neg (by simp [ff]), if_neg z] at hS
            have hw : IntKind.i64.wrap (0 - n) = -n := by rw [wrap_in (by omega) (by omega)]; omega
            rw [hw]; exact hS
  · have c5 : (((s.getD i 0).toNat : Int) != 59) = true := by
      have : (s.getD i 0).toNat ≠ 59 := fun h => q3 (UInt8.toNat_inj.1 h)
      simp only [bne_iff_ne, ne_eq]; omega
    rw [if_pos (.inr (.inr (.inl q3)))] at hS
    simp only [t0, t5, t6, t7, c1, c2, c3, c5, Qs, if_true, if_false, List.append_nil, List.nodup_nil, Nat.reduceBEq, id @f18r23.eq_1, uu f18b24.eq_1, uu f18b25.eq_1, id @f18r26.eq_1, uu f18b27.eq_1, uu f18b28.eq_1]
    exact hS
theorem refB_none {neg : Bool} {b : Txt} (h : refD 0 b = none) : refB neg b = none := by rw [refB, h]; rfl
theorem w18 (s : Txt) (hs : s.length ≤ 1000000000000) : Spec Tryd.prog 18 [.str s] (fun r => r = resI (rI s)) := by
  refine Spec.of_awlS hf18 okf18 (by simp) fun S hS => ?_
  rw [← refI_eq] at hS
  have key : ∀ (fr : Nat) (ts : TS), fr ≤ 1 → fr ≤ s.length → S (resI (refB (decide (fr = 1)) (s.drop fr))) → keepT ts [0, 5, 6, 7] = [(0, .str s), (5, .int .i64 fr), (6, .int .i64 fr), (7, .int .i64 0)] →
      awl Tryd.prog f18l45 (AE.inBlockL 0 (AE.thenL (awl Tryd.prog f18b28 (endK [RX.t 2, RX.t 3, RX.t 4] S)) (endK [RX.t 2, RX.t 3, RX.t 4] S))) ts [] := by
    intro fr ts h1 h2 hS hts
    rw [uf18l45]
    refine awl_loop (fun x : Nat × Int => [(0, .str s), (5, .int .i64 fr), (6, .int .i64 x.1), (7, .int .i64 x.2)]) (fun _ => [])
      (fun x => fr ≤ x.1 ∧ x.1 ≤ s.length ∧ -9223372036854775808 ≤ x.2 ∧ x.2 ≤ 0 ∧ refD x.2 (s.drop x.1) = refD 0 (s.drop fr)) (fun x => s.length - x.1) (fr, 0) hts rfl ⟨by simp, h2, by simp, by simp, rfl⟩ ?_
    rintro ⟨i, n⟩ ⟨g1, g2, g3, g4, g5⟩
    simp only [] at g1 g2 g3 g4 g5
    by_cases hlt : i < s.length
    · have c1 : (i : Int) < s.length := by omega
      rw [refD_at hlt] at g5
      have hb : (s.getD i 0).toNat < 256 := UInt8.toNat_lt _
      have g6 : ∀ ts, lookT 0 ts = .str s → lookT 5 ts = .int .i64 fr → lookT 6 ts = .int .i64 i → lookT 7 ts = .int .i64 n → ¬ (48 ≤ (s.getD i 0).toNat ∧ (s.getD i 0).toNat ≤ 57) → awl Tryd.prog f18b28 (endK [RX.t 2, RX.t 3, RX.t 4] S) ts [] := by
        intro ts t0 t5 t6 t7 hd
        rw [if_neg hd] at g5
        exact tail18 hs h1 g1 g2 g3 g4 t0 t5 t6 t7 g5.symm hS
      generalize hcd : (s.getD i 0).toNat = c at g5 g6 hb
      by_cases q1 : c ≥ 48
      · have e1 : (c : Int) ≥ 48 := by omega
        by_cases q2 : c ≤ 57
        · have e2 : (c : Int) ≤ 57 := by omega
          rw [if_pos ⟨q1, q2⟩] at g5
          have w0 : IntKind.i64.wrap (c : Int) = c := wrap_in (by omega) (by omega)
          have w1 : IntKind.i64.wrap ((c : Int) - 48) = (c : Int) - 48 := wrap_in (by omega) (by omega)
          by_cases q3 : n < -922337203685477580
          · rw [if_pos (.inl q3)] at g5
            rw [refB_none g5.symm] at hS
            simp only [c1, hcd, e1, e2, q3, w0, w1, Qs, if_true, Int.reduceNeg, List.append_nil, List.nodup_nil, Nat.reduceBEq, id @f18r32.eq_1, uu f18b33.eq_1, uu f18b34.eq_1, id @f18r35.eq_1, uu f18b36.eq_1, uu f18b37.eq_1, id @f18r38.eq_1, uu f18b39.eq_1, uu f18b40.eq_1, uu f18b41.eq_1, id @f18r42.eq_1, uu f18b43.eq_1, uu f18b44.eq_1]
            exact hS
          · by_cases q4 : n = -922337203685477580 ∧ (c : Int) - 48 > 8
            · rw [if_pos (.inr q4)] at g5
              rw [refB_none g5.symm] at hS
              simp only [c1, hcd, e1, e2, q4.1, q4.2, w0, w1, Qs, if_true, if_false, Int.reduceNeg, BEq.rfl, List.append_nil, List.nodup_nil, Nat.reduceBEq, Int.reduceLT, id @f18r32.eq_1, uu f18b33.eq_1, uu f18b34.eq_1, id @f18r35.eq_1, uu f18b36.eq_1, uu f18b37.eq_1, id @f18r38.eq_1, uu f18b39.eq_1, uu f18b40.eq_1, uu f18b41.eq_1, id @f18r42.eq_1, uu f18b43.eq_1, uu f18b44.eq_1]
              exact hS
            · rw [if_neg (fun h => h.elim q3 q4)] at g5
              have w2 : IntKind.i64.wrap (10 * n) = 10 * n := wrap_in (by omega) (by omega)
              have w3 : IntKind.i64.wrap (10 * n - ((c : Int) - 48)) = 10 * n - ((c : Int) - 48) := wrap_in (by omega) (by omega)
              have w4 : IntKind.i64.wrap ((i : Int) + 1) = ((i + 1 : Nat) : Int) := by rw [wrap_in (by omega) (by omega)]; rfl
              by_cases q5 : n = -922337203685477580
              · have q6 : ¬ (c : Int) - 48 > 8 := fun h => q4 ⟨q5, h⟩
                have q7 : (n == -922337203685477580) = true := by simp [q5]
                simp only [c1, hcd, e1, e2, q3, q7, q6, w0, w1, w2, w3, w4, Qs, if_true, if_false, Int.reduceNeg, Nat.reduceBEq, id @f18r29.eq_1, id @f18r30.eq_1, uu f18b31.eq_1, uu f18b34.eq_1, id @f18r35.eq_1, uu f18b36.eq_1, uu f18b37.eq_1, id @f18r38.eq_1, uu f18b39.eq_1, uu f18b40.eq_1, uu f18b41.eq_1, id @f18r42.eq_1, uu f18b43.eq_1, uu f18b44.eq_1]
                exact Next.intro (i + 1, 10 * n - ((c : Int) - 48)) rfl rfl ⟨by simp only []; omega, by simp only []; omega, by simp only []; omega, by simp only []; omega, g5⟩ (by simp only []; omega)
              · have q7 : (n == -922337203685477580) = false := by simp [q5]
                simp only [c1, hcd, e1, e2, q3, q7, w0, w1, w2, w3, w4, Qs, if_true, if_false, Int.reduceNeg, Nat.reduceBEq, id @f18r29.eq_1, id @f18r30.eq_1, uu f18b31.eq_1, uu f18b34.eq_1, id @f18r35.eq_1, uu f18b36.eq_1, uu f18b37.eq_1, id @f18r38.eq_1, uu f18b39.eq_1, uu f18b40.eq_1, uu f18b41.eq_1, id @f18r42.eq_1, uu f18b43.eq_1, uu f18b44.eq_1]
                exact Next.intro (i + 1, 10 * n - ((c : Int) - 48)) rfl rfl ⟨by simp only []; omega, by simp only []; omega, by simp only []; omega, by simp only []; omega, g5⟩ (by simp only []; omega)
        · have e2 : ¬ (c : Int) ≤ 57 := by omega
          simp only [c1, hcd, e1, e2, Qs, if_true, Int.reduceNeg, Nat.reduceBEq, uu f18b41.eq_1, id @f18r42.eq_1, uu f18b43.eq_1, uu f18b44.eq_1]
          exact g6 _ rfl rfl rfl rfl (fun h => q2 h.2)
      · have e1 : ¬ (c : Int) ≥ 48 := by omega
        simp only [c1, hcd, e1, Qs, if_true, Int.reduceNeg, Nat.reduceBEq, uu f18b41.eq_1, id @f18r42.eq_1, uu f18b43.eq_1, uu f18b44.eq_1]
        exact g6 _ rfl rfl rfl rfl (fun h => q1 h.1)
    · have c1 : ¬ (i : Int) < s.length := by omega
      simp only [c1, Qs, if_true, Int.reduceNeg, Nat.reduceBEq, uu f18b41.eq_1, id @f18r42.eq_1, uu f18b43.eq_1, uu f18b44.eq_1]
      obtain rfl : i = s.length := by omega
      refine tail18 hs h1 g1 (Nat.le_refl _) g3 g4 rfl rfl rfl rfl ?_ hS
      rw [← g5, List.drop_length]; rfl
  cases s with
  | nil =>
    simp only [List.length_nil, Qs, if_true, Nat.reduceBEq, Int.reduceGT, uu f18.eq_1, uu f18b46.eq_1, uu f18b47.eq_1, id @f18r48.eq_1, uu f18b49.eq_1, id @f18r50.eq_1, uu f18b51.eq_1, id @f18r52.eq_1, uu f18b53.eq_1, id @f18r54.eq_1, uu f18b55.eq_1, uu f18b56.eq_1, id @f18r57.eq_1, uu f18b58.eq_1, id @f18r59.eq_1, uu f18b60.eq_1]
    exact key 0 _ (by simp) (by simp) hS rfl
  | cons c t =>
    have c0 : ((t.length + 1 : Nat) : Int) > 0 := by omega
    have c1 : 0 < ((t.length + 1 : Nat) : Int) := by omega
    by_cases h45 : c = 45
    · have e1 : (c.toNat : Int) = 45 := by rw [h45]; rfl
      simp only [List.length_cons, c0, c1, e1, Qs, if_true, BEq.rfl, Nat.reduceBEq, Int.reduceLE, uu f18.eq_1, uu f18b46.eq_1, uu f18b47.eq_1, id @f18r48.eq_1, uu f18b49.eq_1, id @f18r50.eq_1, uu f18b51.eq_1, id @f18r52.eq_1, uu f18b53.eq_1, id @f18r54.eq_1, uu f18b55.eq_1, uu f18b56.eq_1, id @f18r57.eq_1, uu f18b58.eq_1, id @f18r59.eq_1, uu f18b60.eq_1]
      exact key 1 _ (by simp) (by simp) (by rw [refI, if_pos (by simp [h45])] at hS; exact hS) rfl
    · have e1 : ((c.toNat : Int) == 45) = false := by
        have : c.toNat ≠ 45 := fun h => h45 (UInt8.toNat_inj.1 h)
        simp only [beq_eq_false_iff_ne, ne_eq]; omega
      simp only [List.length_cons, c0, c1, e1, Qs, if_true, Nat.reduceBEq, Int.reduceLE, uu f18.eq_1, uu f18b46.eq_1, uu f18b47.eq_1, id @f18r48.eq_1, uu f18b49.eq_1, id @f18r50.eq_1, uu f18b51.eq_1, id @f18r52.eq_1, uu f18b53.eq_1, id @f18r54.eq_1, uu f18b55.eq_1, uu f18b56.eq_1, id @f18r57.eq_1, uu f18b58.eq_1, id @f18r59.eq_1, uu f18b60.eq_1]
      exact key 0 _ (by simp) (by simp) (by rw [refI, if_neg (by simp [h45])] at hS; exact hS) rfl
end Go.Abs


set_option maxRecDepth 100000
set_option maxHeartbeats 4000000
namespace Go.Abs
open Go.Proofs Go.Wire
theorem Spec.of_awlP {P : Program} {f : FuncId} {n : Nat} {c : AQ} {rs : List RX} {args : List V} {X : V} (hc : cFunc P f = some ⟨n, c.erase, rs⟩) (hok : c.ok = true) (hlen : args.length ≤ n)
    (h : ∀ S : V → Prop, (∀ r, r.fz.nrm = X → S r) → awl P c (endK rs S) (initT 0 args) []) : Spec P f args (fun r => r = X) :=
  (Spec.of_awl hc hok hlen (h (fun r => r.fz.nrm = X) fun _ h => h)).plain.mono (by rintro r' ⟨r, h, rfl⟩; exact h)
def rNum (s : Txt) : Option (Int × Txt) := (rI s).bind fun p => if p.1 < 0 then none else some p
theorem resI_scalar (r : Option (Int × Txt)) : (resI r).scalar = true := by unfold resI; split <;> rfl
theorem w32 (s : Txt) (hs : s.length ≤ 1000000000000) : Spec Tryd.prog 32 [.str s] (fun r => r = resI (rNum s)) := by
  refine Spec.of_awlS hf32 okf32 (by simp) fun S hS => ?_
  unfold rNum at hS
  simp only [Qs, Nat.reduceBEq, uu f32.eq_1, id @f32r9.eq_1, uu f32b10.eq_1, id @f32r11.eq_1, uu f32b12.eq_1]
  refine call_s (w18 s hs) ?_ (hr := resI_scalar _)
  cases h : rI s with
  | none =>
    rw [h] at hS
    simp only [resI, Qs, List.append_nil, List.nodup_nil, Nat.reduceBEq, id @f32r3.eq_1, uu f32b4.eq_1, uu f32b5.eq_1, id @f32r6.eq_1, uu f32b7.eq_1, uu f32b8.eq_1]
    exact hS
  | some p =>
    obtain ⟨n, r⟩ := p
    rw [h] at hS
    simp only [Option.bind_some] at hS
    by_cases hn : n < 0
    · rw [if_pos hn] at hS
      simp only [resI, hn, Qs, if_true, if_false, List.append_nil, List.nodup_nil, Nat.reduceBEq, id @f32r3.eq_1, uu f32b4.eq_1, uu f32b5.eq_1, id @f32r6.eq_1, uu f32b7.eq_1, uu f32b8.eq_1]
      exact hS
    · rw [if_neg hn] at hS
      simp only [resI, hn, Qs, if_true, if_false, List.append_nil, List.nodup_nil, Nat.reduceBEq, id @f32r1.eq_1, uu f32b2.eq_1, uu f32b5.eq_1, id @f32r6.eq_1, uu f32b7.eq_1, uu f32b8.eq_1]
      exact hS
def resS (r : Option (Txt × Txt)) : V := match r with
  | some (n, r) => .tup [.str n, .str r, .bool true]
  | none => .tup [.str [], .str [], .bool false]
theorem resS_scalar (r : Option (Txt × Txt)) : (resS r).scalar = true := by unfold resS; split <;> rfl
theorem rI_len {s r : Txt} {n : Int} (h : rI s = some (n, r)) : r.length ≤ s.length := by
  have h1 := (rI_some h).2
  rw [h1, List.length_append]; omega
theorem w20 (s : Txt) (hs : s.length ≤ 1000000000000) : Spec Tryd.prog 20 [.str s] (fun r => r = resS (rS s)) := by
  refine Spec.of_awlS hf20 okf20 (by simp) fun S hS => ?_
  unfold rS at hS
  simp only [Qs, Nat.reduceBEq, uu f20.eq_1, id @f20r9.eq_1, uu f20b10.eq_1, id @f20r11.eq_1, uu f20b12.eq_1]
  refine call_s (w32 s hs) ?_ (hr := resI_scalar _)
  unfold rNum
  cases h : rI s with
  | none =>
    rw [h] at hS
    simp only [Option.bind_none, resI, Qs, List.append_nil, List.nodup_nil, Nat.reduceBEq, id @f20r3.eq_1, uu f20b4.eq_1, uu f20b5.eq_1, id @f20r6.eq_1, uu f20b7.eq_1, uu f20b8.eq_1]
    exact hS
  | some p =>
    obtain ⟨n, r⟩ := p
    have hr := rI_len h
    rw [h] at hS
    simp only [Option.bind_some] at hS ⊢
    by_cases hn : n < 0
    · rw [if_pos (.inl hn)] at hS
      simp only [if_pos hn, resI, hn, Qs, if_true, List.append_nil, List.nodup_nil, Nat.reduceBEq, id @f20r3.eq_1, uu f20b4.eq_1, uu f20b5.eq_1, id @f20r6.eq_1, uu f20b7.eq_1, uu f20b8.eq_1]
      exact hS
    · rw [if_neg hn]
      by_cases hl : n > r.length
      · rw [if_pos (.inr hl)] at hS
        simp only [resI, hn, hl, Qs, if_true, if_false, List.append_nil, List.nodup_nil, Nat.reduceBEq, id @f20r3.eq_1, uu f20b4.eq_1, uu f20b5.eq_1, id @f20r6.eq_1, uu f20b7.eq_1, uu f20b8.eq_1]
        exact hS
      · rw [if_neg (fun h => h.elim hn hl)] at hS
        have b1 : (0 : Int) ≤ n := by omega
        have b2 : n ≤ r.length := by omega
        simp only [resI, hn, hl, b1, b2, Qs, if_true, if_false, List.append_nil, List.nodup_nil, Nat.reduceBEq, Int.reduceLE, id @f20r1.eq_1, uu f20b2.eq_1, uu f20b5.eq_1, id @f20r6.eq_1, uu f20b7.eq_1, uu f20b8.eq_1]
        rw [List.take_length]
        exact ⟨Int.le_refl _, hS⟩
theorem wI_le {n : Int} (h : inI n) : (wI n).length ≤ 21 := by
  have := itoa_len h
  rw [wI, List.length_append, List.length_singleton]; omega
theorem wS_le {s : Txt} (h : s.length ≤ 1000000000000) : (wS s).length ≤ 21 + s.length := by
  have := wI_le (n := s.length) ⟨by omega, by omega⟩
  rw [wS, List.length_append]; omega
theorem w12 (s : Txt) (hs : s.length ≤ 1000000000000) : Spec Tryd.prog 12 [.str s] (fun r => r = .str (wS s)) := by
  have h0 : inI (s.length : Int) := ⟨by omega, by omega⟩
  have h1 := wI_le h0
  refine Spec.of_awlS hf12 okf12 (by simp) fun S hS => ?_
  simp only [Qs, Nat.reduceBEq, uu f12.eq_1, id @f12r1.eq_1, uu f12b2.eq_1, id @f12r3.eq_1, uu f12b4.eq_1]
  refine call_s (w10 s.length h0) ?_
  have c : (wI s.length).length + s.length ≤ 9223372036854775807 := by omega
  simp only [c, Qs, List.nodup_nil, Nat.reduceBEq]
  exact hS
theorem wN_snoc {α : Type} (w : α → Txt) (l : List α) {i : Nat} (h : i < l.length) : wN w (l.take (i + 1)) = wN w (l.take i) ++ w l[i] := by
  rw [List.take_add_one, List.getElem?_eq_getElem h]
  simp only [wN, Option.toList_some, List.map_append, List.map_cons, List.map_nil, List.flatten_append, List.flatten_cons, List.flatten_nil, List.append_nil]
def okIs (l : List Int) : Prop := l.length ≤ 100000000 ∧ ∀ x ∈ l, inI x
def bk : List Txt → Nat
  | [] => 0
  | s :: l => s.length + 1 + bk l
def okSs (t : List Txt) : Prop := bk t ≤ 100000000
theorem bk_len : ∀ t : List Txt, t.length ≤ bk t
  | [] => by simp [bk]
  | s :: l => by have := bk_len l; simp only [bk, List.length_cons]; omega
theorem bk_mem : ∀ {t : List Txt} {s : Txt}, s ∈ t → s.length ≤ bk t
  | a :: l, s, h => by
    rcases List.mem_cons.1 h with rfl | h
    · simp only [bk]; omega
    · have := bk_mem h; simp only [bk]; omega
theorem bk_take : ∀ (t : List Txt) (i : Nat), bk (t.take i) ≤ bk t
  | [], i => by simp
  | a :: l, 0 => by simp [bk]
  | a :: l, i + 1 => by have := bk_take l i; simp only [List.take_succ_cons, bk]; omega
theorem wN_leI : ∀ {l : List Int}, (∀ x ∈ l, inI x) → (wN wI l).length ≤ 21 * l.length
  | [], _ => by simp [wN]
  | x :: l, h => by
    have h1 := wN_leI (l := l) fun y hy => h y (by simp [hy])
    have h2 := wI_le (h x (by simp))
    have e : wN wI (x :: l) = wI x ++ wN wI l := by simp [wN]
    rw [e, List.length_append, List.length_cons]; omega
theorem wN_leS : ∀ {l : List Txt}, bk l ≤ 100000000 → (wN wS l).length ≤ 21 * bk l
  | [], _ => by simp [wN]
  | x :: l, h => by
    simp only [bk] at h ⊢
    have h1 := wN_leS (l := l) (by omega)
    have h2 := wS_le (s := x) (by omega)
    have e : wN wS (x :: l) = wS x ++ wN wS l := by simp [wN]
    rw [e, List.length_append]; omega
theorem w14 (l : List Int) (h : okIs l) : Spec Tryd.prog 14 [lst 1 (ints l)] (fun r => r = .str (wL wI l)) := by
  obtain ⟨hl, hi⟩ := h
  have h0 : inI (l.length : Int) := ⟨by omega, by omega⟩
  have h1 := wI_le h0
  refine Spec.of_awlS hf14 okf14 (by simp) fun S hS => ?_
  simp only [ints_len, Qs, Nat.reduceBEq, uu f14.eq_1, id @f14r16.eq_1, uu f14b17.eq_1, id @f14r18.eq_1, uu f14b19.eq_1]
  refine call_s (w10 l.length h0) ?_
  simp only [Qs, uu f14b12.eq_1, id @f14r13.eq_1, uu f14b14.eq_1, uu f14b15.eq_1]
  rw [uf14l11]
  refine awl_loop (fun i : Nat => [(0, lst 1 (ints l)), (3, .str (wI l.length ++ wN wI (l.take i))), (4, .int .i64 i)]) (fun _ => [])
    (fun i => i ≤ l.length) (fun i => l.length - i) 0 (by simp [keepT, lookT, wN]) rfl (Nat.zero_le _) ?_
  intro i hil
  by_cases hlt : i < l.length
  · have c1 : (i : Int) < l.length := by omega
    have c4 : IntKind.i64.wrap ((i : Int) + 1) = ((i + 1 : Nat) : Int) := by rw [wrap_in (by omega) (by omega)]; rfl
    simp only [ints_len, c1, ints_at hlt, Qs, if_true, Nat.reduceBEq, id @f14r3.eq_1, id @f14r4.eq_1, uu f14b5.eq_1, uu f14b6.eq_1, uu f14b7.eq_1, id @f14r8.eq_1, uu f14b9.eq_1, uu f14b10.eq_1]
    refine call_s (w10 l[i] (hi _ (List.getElem_mem hlt))) ?_
    have h2 := wN_leI (l := l.take i) fun x hx => hi x (List.mem_of_mem_take hx)
    have h3 := wI_le (hi l[i] (List.getElem_mem hlt))
    have c : (wI l.length ++ wN wI (l.take i)).length + (wI l[i]).length ≤ 9223372036854775807 := by
      rw [List.length_append]
      rw [List.length_take] at h2
      omega
    simp only [c, c4, Qs, if_true, Nat.reduceBEq]
    refine Next.intro (i + 1) ?_ rfl (by omega) (by omega)
    rw [wN_snoc wI l hlt, ← List.append_assoc]; rfl
  · have c1 : ¬ (i : Int) < l.length := by omega
    simp only [ints_len, c1, Qs, if_true, List.nodup_nil, Nat.reduceBEq, id @f14r1.eq_1, uu f14b2.eq_1, uu f14b7.eq_1, id @f14r8.eq_1, uu f14b9.eq_1, uu f14b10.eq_1]
    rw [List.take_of_length_le (by omega)]
    exact hS
theorem w16 (l : List Txt) (h : okSs l) : Spec Tryd.prog 16 [lst 1 (strs l)] (fun r => r = .str (wL wS l)) := by
  unfold okSs at h
  have hl := bk_len l
  have h0 : inI (l.length : Int) := ⟨by omega, by omega⟩
  have h1 := wI_le h0
  refine Spec.of_awlS hf16 okf16 (by simp) fun S hS => ?_
  simp only [strs_len, Qs, Nat.reduceBEq, uu f16.eq_1, id @f16r16.eq_1, uu f16b17.eq_1, id @f16r18.eq_1, uu f16b19.eq_1]
  refine call_s (w10 l.length h0) ?_
  simp only [Qs, uu f16b12.eq_1, id @f16r13.eq_1, uu f16b14.eq_1, uu f16b15.eq_1]
  rw [uf16l11]
  refine awl_loop (fun i : Nat => [(0, lst 1 (strs l)), (3, .str (wI l.length ++ wN wS (l.take i))), (4, .int .i64 i)]) (fun _ => [])
    (fun i => i ≤ l.length) (fun i => l.length - i) 0 (by simp [keepT, lookT, wN]) rfl (Nat.zero_le _) ?_
  intro i hil
  by_cases hlt : i < l.length
  · have c1 : (i : Int) < l.length := by omega
    have c4 : IntKind.i64.wrap ((i : Int) + 1) = ((i + 1 : Nat) : Int) := by rw [wrap_in (by omega) (by omega)]; rfl
    have hm := bk_mem (List.getElem_mem hlt)
    simp only [strs_len, c1, strs_at hlt, Qs, if_true, Nat.reduceBEq, id @f16r3.eq_1, id @f16r4.eq_1, uu f16b5.eq_1, uu f16b6.eq_1, uu f16b7.eq_1, id @f16r8.eq_1, uu f16b9.eq_1, uu f16b10.eq_1]
    refine call_s (w12 l[i] (by omega)) ?_
    have h2 := wN_leS (l := l.take i) (Nat.le_trans (bk_take l i) h)
    have h3 := wS_le (s := l[i]) (by omega)
    have h4 := bk_take l i
    have c : (wI l.length ++ wN wS (l.take i)).length + (wS l[i]).length ≤ 9223372036854775807 := by
      rw [List.length_append]
      omega
    simp only [c, c4, Qs, if_true, Nat.reduceBEq]
    refine Next.intro (i + 1) ?_ rfl (by omega) (by omega)
    rw [wN_snoc wS l hlt, ← List.append_assoc]; rfl
  · have c1 : ¬ (i : Int) < l.length := by omega
    simp only [strs_len, c1, Qs, if_true, List.nodup_nil, Nat.reduceBEq, id @f16r1.eq_1, uu f16b2.eq_1, uu f16b7.eq_1, id @f16r8.eq_1, uu f16b9.eq_1, uu f16b10.eq_1]
    rw [List.take_of_length_le (by omega)]
    exact hS
end Go.Abs


set_option maxRecDepth 100000
set_option maxHeartbeats 4000000
namespace Go.Abs
open Go.Proofs Go.Wire
def resLs {α : Type} (rows : List α → List (List C)) (r : Option (List α × Txt)) : V := match r with
  | some (l, r) => .tup [lst 1 (rows l), .str r, .bool true]
  | none => .tup [lst 1 (rows []), .str [], .bool false]
theorem rS_len {s t r : Txt} (h : rS s = some (t, r)) : t.length + r.length ≤ s.length := by
  have h1 := ((reads_S s t r).1 h).2
  rw [h1, List.length_append, wS, List.length_append]; omega
def after {α : Type} (acc : List α) (r : Option (List α × Txt)) : Option (List α × Txt) := r.map fun p => (acc ++ p.1, p.2)
theorem after_nil {α : Type} (r : Option (List α × Txt)) : after [] r = r := by cases r <;> rfl
theorem rN_succ {α : Type} (R : Txt → Option (α × Txt)) (acc : List α) (k : Nat) (s : Txt) : after acc (rN R (k + 1) s) = match R s with | none => none | some (x, r) => after (acc ++ [x]) (rN R k r) := by
  rw [rN]
  cases R s with
  | none => rfl
  | some p =>
    obtain ⟨x, r⟩ := p
    simp only [Option.bind_some]
    cases rN R k r with
    | none => rfl
    | some q => simp [after]
theorem fin_L {S : V → Prop} {X : V} (h : ∀ r, r.fz.nrm = X → S r) {e : TypeId} {nl : Option Bool} {rows : List (List C)} {t : Txt} {b : Bool} (hX : X = .tup [lst 1 (C.normRows rows), .str t, .bool b]) : S (.tup [.k (.newl e 1 nl rows), .k (.c (.str t)), .k (.c (.bool b))]) := by
  refine h _ ?_
  simp only [V.fz, V.fzL, V.nrm, V.nrmL, Abs.K.fz, Abs.K.nrm, norm_list, norm_str, norm_bool, hX, lst]
theorem w22 (s : Txt) (hs : s.length ≤ 100000000) : Spec Tryd.prog 22 [.str s] (fun r => r = resLs ints (rL rI s)) := by
  refine Spec.of_awlP hf22 okf22 (by simp) fun S hS => ?_
  unfold rL at hS
  simp only [Qs, Nat.reduceBEq, uu f22.eq_1, id @f22r34.eq_1, uu f22b35.eq_1, id @f22r36.eq_1, uu f22b37.eq_1]
  refine call_s (w32 s (by omega)) ?_ (hr := resI_scalar _)
  unfold rNum
  cases h : rI s with
  | none =>
    rw [h] at hS
    simp only [Option.bind_none, resI, Qs, if_true, BEq.rfl, List.append_nil, List.nodup_nil, List.nodup_cons, Nat.reduceBEq, List.not_mem_nil, id @f22r28.eq_1, uu f22b29.eq_1, uu f22b30.eq_1, id @f22r31.eq_1, uu f22b32.eq_1, uu f22b33.eq_1]
    exact fin_L hS rfl
  | some p =>
    obtain ⟨n, r⟩ := p
    have hr := rI_len h
    rw [h] at hS
    simp only [Option.bind_some] at hS ⊢
    by_cases hn : n < 0
    · rw [if_pos (.inl hn)] at hS
      simp only [if_pos hn, resI, hn, Qs, if_true, BEq.rfl, List.append_nil, List.nodup_nil, List.nodup_cons, Nat.reduceBEq, List.not_mem_nil, id @f22r28.eq_1, uu f22b29.eq_1, uu f22b30.eq_1, id @f22r31.eq_1, uu f22b32.eq_1, uu f22b33.eq_1]
      exact fin_L hS rfl
    rw [if_neg hn]
    have hq : IntKind.i64.wrap ((r.length : Int).tdiv 2) = ((r.length / 2 : Nat) : Int) := by
      rw [show (r.length : Int).tdiv 2 = ((r.length / 2 : Nat) : Int) from rfl]
      exact wrap_in (by omega) (by omega)
    by_cases hl : n > ((r.length / 2 : Nat) : Int)
    · rw [if_pos (.inr hl)] at hS
      simp only [resI, hn, hq, hl, Qs, if_true, if_false, ne_eq, BEq.rfl, List.append_nil, List.nodup_nil, List.nodup_cons, Nat.reduceBEq, Int.reduceEq, List.not_mem_nil, id @f22r28.eq_1, uu f22b29.eq_1, uu f22b30.eq_1, id @f22r31.eq_1, uu f22b32.eq_1, uu f22b33.eq_1]
      exact fin_L hS rfl
    rw [if_neg (fun h => h.elim hn hl)] at hS
    simp only [resI, hn, hq, hl, Qs, if_true, if_false, implies_true, bne_iff_ne, ne_eq, Nat.reduceEqDiff, Nat.reduceBEq, Int.reduceEq, List.not_mem_nil, implies_true, uu f22b22.eq_1, id @f22r23.eq_1, uu f22b24.eq_1, uu f22b25.eq_1, id @f22r26.eq_1, uu f22b27.eq_1, uu f22b30.eq_1, id @f22r31.eq_1, uu f22b32.eq_1, uu f22b33.eq_1]
    obtain ⟨k, rfl⟩ : ∃ k : Nat, n = k := ⟨n.toNat, by omega⟩
    rw [Int.toNat_natCast] at hS
    rw [uf22l21]
    refine awl_loop (fun x : Nat × Txt × List Int => [(5, .int .i64 (k : Int)), (6, .str x.2.1), (8, .k (.own 28)), (9, .int .i64 x.1)]) (fun x => [(28, .arr 3 1 (some false) (ints x.2.2))])
      (fun x => x.1 ≤ k ∧ x.2.2.length = x.1 ∧ x.2.1.length ≤ s.length ∧ after x.2.2 (rN rI (k - x.1) x.2.1) = rN rI k r) (fun x => k - x.1) (0, r, []) rfl rfl ⟨Nat.zero_le _, rfl, hr, after_nil _⟩ ?_
    rintro ⟨i, q, acc⟩ ⟨g1, g2, g3, g4⟩
    simp only [] at g1 g2 g3 g4
    by_cases hlt : i < k
    · have c1 : (i : Int) < (k : Int) := by omega
      have c4 : IntKind.i64.wrap ((i : Int) + 1) = ((i + 1 : Nat) : Int) := by rw [wrap_in (by omega) (by omega)]; rfl
      rw [show k - i = (k - (i + 1)) + 1 by omega, rN_succ] at g4
      simp only [c1, Qs, if_true, Nat.reduceBEq, id @f22r3.eq_1, id @f22r13.eq_1, uu f22b14.eq_1, uu f22b15.eq_1, uu f22b16.eq_1, uu f22b17.eq_1, id @f22r18.eq_1, uu f22b19.eq_1, uu f22b20.eq_1]
      refine call_s (w18 q (by omega)) ?_ (hr := resI_scalar _)
      cases h2 : rI q with
      | none =>
        rw [h2] at g4
        simp only [] at g4
        rw [← g4] at hS
        simp only [resI, Qs, if_true, bne_iff_ne, ne_eq, List.append_nil, List.nodup_nil, List.nodup_cons, Nat.reduceEqDiff, Nat.reduceBEq, List.not_mem_nil, id @f22r7.eq_1, uu f22b8.eq_1, uu f22b9.eq_1, id @f22r10.eq_1, uu f22b11.eq_1, uu f22b12.eq_1]
        exact fin_L hS rfl
      | some p =>
        obtain ⟨x, q'⟩ := p
        have hq2 := rI_len h2
        rw [h2] at g4
        simp only [] at g4
        simp only [resI, c4, Qs, if_true, if_false, forall_eq, bne_iff_ne, ne_eq, List.mem_cons, Nat.reduceEqDiff, Nat.reduceLeDiff, Nat.reduceLT, Nat.reduceBEq, List.not_mem_nil, id @f22r4.eq_1, id @f22r5.eq_1, uu f22b6.eq_1, uu f22b9.eq_1, id @f22r10.eq_1, uu f22b11.eq_1, uu f22b12.eq_1]
        refine ⟨by omega, by omega, Next.intro (i + 1, q', acc ++ [x]) rfl ?_ ⟨by simp only []; omega, by simp [g2], by simp only []; omega, g4⟩ (by simp only []; omega)⟩
        rw [← ints_snoc]; rfl
    · have c1 : ¬ (i : Int) < (k : Int) := by omega
      simp only [c1, Qs, if_true, List.append_nil, List.nodup_nil, List.nodup_cons, Nat.reduceBEq, List.not_mem_nil, id @f22r1.eq_1, uu f22b2.eq_1, uu f22b17.eq_1, id @f22r18.eq_1, uu f22b19.eq_1, uu f22b20.eq_1]
      rw [show k - i = 0 by omega, rN] at g4
      rw [← g4] at hS
      exact fin_L hS (by simp [after, resLs])
theorem w25 (s : Txt) (hs : s.length ≤ 100000000) : Spec Tryd.prog 25 [.str s] (fun r => r = resLs strs (rL rS s)) := by
  refine Spec.of_awlP hf25 okf25 (by simp) fun S hS => ?_
  unfold rL at hS
  simp only [Qs, Nat.reduceBEq, uu f25.eq_1, id @f25r34.eq_1, uu f25b35.eq_1, id @f25r36.eq_1, uu f25b37.eq_1]
  refine call_s (w32 s (by omega)) ?_ (hr := resI_scalar _)
  unfold rNum
  cases h : rI s with
  | none =>
    rw [h] at hS
    simp only [Option.bind_none, resI, Qs, if_true, BEq.rfl, List.append_nil, List.nodup_nil, List.nodup_cons, Nat.reduceBEq, List.not_mem_nil, id @f25r28.eq_1, uu f25b29.eq_1, uu f25b30.eq_1, id @f25r31.eq_1, uu f25b32.eq_1, uu f25b33.eq_1]
    exact fin_L hS rfl
  | some p =>
    obtain ⟨n, r⟩ := p
    have hr := rI_len h
    rw [h] at hS
    simp only [Option.bind_some] at hS ⊢
    by_cases hn : n < 0
    · rw [if_pos (.inl hn)] at hS
      simp only [if_pos hn, resI, hn, Qs, if_true, BEq.rfl, List.append_nil, List.nodup_nil, List.nodup_cons, Nat.reduceBEq, List.not_mem_nil, id @f25r28.eq_1, uu f25b29.eq_1, uu f25b30.eq_1, id @f25r31.eq_1, uu f25b32.eq_1, uu f25b33.eq_1]
      exact fin_L hS rfl
    rw [if_neg hn]
    have hq : IntKind.i64.wrap ((r.length : Int).tdiv 2) = ((r.length / 2 : Nat) : Int) := by
      rw [show (r.length : Int).tdiv 2 = ((r.length / 2 : Nat) : Int) from rfl]
      exact wrap_in (by omega) (by omega)
    by_cases hl : n > ((r.length / 2 : Nat) : Int)
    · rw [if_pos (.inr hl)] at hS
      simp only [resI, hn, hq, hl, Qs, if_true, if_false, ne_eq, BEq.rfl, List.append_nil, List.nodup_nil, List.nodup_cons, Nat.reduceBEq, Int.reduceEq, List.not_mem_nil, id @f25r28.eq_1, uu f25b29.eq_1, uu f25b30.eq_1, id @f25r31.eq_1, uu f25b32.eq_1, uu f25b33.eq_1]
      exact fin_L hS rfl
    rw [if_neg (fun h => h.elim hn hl)] at hS
    simp only [resI, hn, hq, hl, Qs, if_true, if_false, implies_true, bne_iff_ne, ne_eq, Nat.reduceEqDiff, Nat.reduceBEq, Int.reduceEq, List.not_mem_nil, implies_true, uu f25b22.eq_1, id @f25r23.eq_1, uu f25b24.eq_1, uu f25b25.eq_1, id @f25r26.eq_1, uu f25b27.eq_1, uu f25b30.eq_1, id @f25r31.eq_1, uu f25b32.eq_1, uu f25b33.eq_1]
    obtain ⟨k, rfl⟩ : ∃ k : Nat, n = k := ⟨n.toNat, by omega⟩
    rw [Int.toNat_natCast] at hS
    rw [uf25l21]
    refine awl_loop (fun x : Nat × Txt × List Txt => [(5, .int .i64 (k : Int)), (6, .str x.2.1), (8, .k (.own 28)), (9, .int .i64 x.1)]) (fun x => [(28, .arr 9 1 (some false) (strs x.2.2))])
      (fun x => x.1 ≤ k ∧ x.2.2.length = x.1 ∧ x.2.1.length ≤ s.length ∧ after x.2.2 (rN rS (k - x.1) x.2.1) = rN rS k r) (fun x => k - x.1) (0, r, []) rfl rfl ⟨Nat.zero_le _, rfl, hr, after_nil _⟩ ?_
    rintro ⟨i, q, acc⟩ ⟨g1, g2, g3, g4⟩
    simp only [] at g1 g2 g3 g4
    by_cases hlt : i < k
    · have c1 : (i : Int) < (k : Int) := by omega
      have c4 : IntKind.i64.wrap ((i : Int) + 1) = ((i + 1 : Nat) : Int) := by rw [wrap_in (by omega) (by omega)]; rfl
      rw [show k - i = (k - (i + 1)) + 1 by omega, rN_succ] at g4
      simp only [c1, Qs, if_true, Nat.reduceBEq, id @f25r3.eq_1, id @f25r13.eq_1, uu f25b14.eq_1, uu f25b15.eq_1, uu f25b16.eq_1, uu f25b17.eq_1, id @f25r18.eq_1, uu f25b19.eq_1, uu f25b20.eq_1]
      refine call_s (w20 q (by omega)) ?_ (hr := resS_scalar _)
      cases h2 : rS q with
      | none =>
        rw [h2] at g4
        simp only [] at g4
        rw [← g4] at hS
        simp only [resS, Qs, if_true, bne_iff_ne, ne_eq, List.append_nil, List.nodup_nil, List.nodup_cons, Nat.reduceEqDiff, Nat.reduceBEq, List.not_mem_nil, id @f25r7.eq_1, uu f25b8.eq_1, uu f25b9.eq_1, id @f25r10.eq_1, uu f25b11.eq_1, uu f25b12.eq_1]
        exact fin_L hS rfl
      | some p =>
        obtain ⟨x, q'⟩ := p
        have hq2 := rS_len h2
        rw [h2] at g4
        simp only [] at g4
        simp only [resS, c4, Qs, if_true, if_false, forall_eq, bne_iff_ne, ne_eq, List.mem_cons, Nat.reduceEqDiff, Nat.reduceLeDiff, Nat.reduceLT, Nat.reduceBEq, List.not_mem_nil, id @f25r4.eq_1, id @f25r5.eq_1, uu f25b6.eq_1, uu f25b9.eq_1, id @f25r10.eq_1, uu f25b11.eq_1, uu f25b12.eq_1]
        have hsl := strs_len acc
        refine ⟨by omega, by omega, Next.intro (i + 1, q', acc ++ [x]) rfl ?_ ⟨by simp only []; omega, by simp [g2], by simp only []; omega, g4⟩ (by simp only []; omega)⟩
        rw [← strs_snoc]; rfl
    · have c1 : ¬ (i : Int) < (k : Int) := by omega
      simp only [c1, Qs, if_true, List.append_nil, List.nodup_nil, List.nodup_cons, Nat.reduceBEq, List.not_mem_nil, id @f25r1.eq_1, uu f25b2.eq_1, uu f25b17.eq_1, id @f25r18.eq_1, uu f25b19.eq_1, uu f25b20.eq_1]
      rw [show k - i = 0 by omega, rN] at g4
      rw [← g4] at hS
      exact fin_L hS (by simp [after, resLs])
end Go.Abs


set_option maxRecDepth 100000
namespace Go.Proofs
open Go.Shelf Go.RowKit
def Tryd.laysCut_ren : Go.Shelf.Ren :=
  {
    f := fun x =>
      match x with
      | 145 => 30
      | 220 => 38
      | 219 => 43
      | 217 => 54
      | 225 => 55
      | 224 => 56
      | 267 => 57
      | 266 => 66
      | 314 => 67
      | n => n,
    t := fun x =>
      match x with
      | 9 => 9
      | 4 => 4
      | 59 => 31
      | 3 => 3
      | 5 => 5
      | 46 => 78
      | 146 => 90
      | 51 => 86
      | n => n,
    g := fun x =>
      match x with
      | 1 => 0
      | n => n }
theorem Tryd.laysCut : Lays.n145 Tryd.prog Tryd.laysCut_ren :=
  { mixed := by kernel_rfl, f145 := Eq.trans Tryd.func30 (congrArg some (Eq.refl (Body.n145 Tryd.laysCut_ren))),
    f217 := Eq.trans Tryd.func54 (congrArg some (Eq.refl (Body.n217 Tryd.laysCut_ren))),
    f219 := Eq.trans Tryd.func43 (congrArg some (Eq.refl (Body.n219 Tryd.laysCut_ren))),
    f220 := Eq.trans Tryd.func38 (congrArg some (Eq.refl (Body.n220 Tryd.laysCut_ren))),
    f224 := Eq.trans Tryd.func56 (congrArg some (Eq.refl (Body.n224 Tryd.laysCut_ren))),
    f225 := Eq.trans Tryd.func55 (congrArg some (Eq.refl (Body.n225 Tryd.laysCut_ren))),
    f266 := Eq.trans Tryd.func66 (congrArg some (Eq.refl (Body.n266 Tryd.laysCut_ren))),
    f267 := Eq.trans Tryd.func57 (congrArg some (Eq.refl (Body.n267 Tryd.laysCut_ren))),
    f314 := Eq.trans Tryd.func67 (congrArg some (Eq.refl (Body.n314 Tryd.laysCut_ren))), t3 := Tryd.underlying3,
    a3 := Tryd.isAgg3, z3 := Tryd.sizeOf3, v3 := Tryd.zeroValue3, t4 := Tryd.underlying4, a4 := Tryd.isAgg4,
    z4 := Tryd.sizeOf4, v4 := Tryd.zeroValue4, t5 := Tryd.underlying5, a5 := Tryd.isAgg5, z5 := Tryd.sizeOf5,
    v5 := Tryd.zeroValue5, t9 := Tryd.underlying9, a9 := Tryd.isAgg9, z9 := Tryd.sizeOf9, v9 := Tryd.zeroValue9,
    t46 := Tryd.underlying78, a46 := Tryd.isAgg78, z46 := Tryd.sizeOf78, v46 := Tryd.zeroValue78,
    t51 := Tryd.underlying86, a51 := Tryd.isAgg86, z51 := Tryd.sizeOf86, v51 := Tryd.zeroValue86,
    t59 := Tryd.underlying31, a59 := Tryd.isAgg31, z59 := Tryd.sizeOf31, v59 := Tryd.zeroValue31,
    t146 := Tryd.underlying90, a146 := Tryd.isAgg90, z146 := Tryd.sizeOf90, v146 := Tryd.zeroValue90,
    g1 := by kernel_rfl }
def Tryd.laysItoa_ren : Go.Shelf.Ren :=
  {
    f := fun x =>
      match x with
      | 171 => 27
      | 243 => 35
      | 246 => 41
      | 283 => 49
      | 284 => 50
      | 285 => 51
      | 286 => 52
      | 129 => 62
      | 317 => 61
      | 318 => 63
      | 319 => 64
      | 320 => 65
      | 337 => 70
      | 338 => 71
      | n => n,
    t := fun x =>
      match x with
      | 3 => 3
      | 9 => 9
      | 2 => 2
      | 4 => 4
      | 171 => 68
      | 0 => 0
      | 53 => 69
      | 37 => 54
      | 5 => 5
      | 173 => 72
      | 212 => 85
      | 51 => 86
      | 20 => 20
      | 213 => 87
      | 46 => 78
      | 232 => 97
      | 233 => 98
      | n => n,
    g := fun x =>
      match x with
      | 17 => 3
      | 18 => 4
      | 19 => 5
      | n => n }
theorem Tryd.laysItoa : LaysM.n171 Tryd.prog Tryd.laysItoa_ren :=
  { mixed := by kernel_rfl, f129 := Eq.trans Tryd.func62 (congrArg some (Eq.refl (Body.n129 Tryd.laysItoa_ren))),
    f171 := Eq.trans Tryd.func27 (congrArg some (Eq.refl (Body.n171 Tryd.laysItoa_ren))),
    f243 := Eq.trans Tryd.func35 (congrArg some (Eq.refl (Body.n243 Tryd.laysItoa_ren))),
    f246 := Eq.trans Tryd.func41 (congrArg some (Eq.refl (Body.n246 Tryd.laysItoa_ren))),
    f283 := Eq.trans Tryd.func49 (congrArg some (Eq.refl (Body.n283 Tryd.laysItoa_ren))),
    f284 := Eq.trans Tryd.func50 (congrArg some (Eq.refl (Body.n284 Tryd.laysItoa_ren))),
    f285 := Eq.trans Tryd.func51 (congrArg some (Eq.refl (Body.n285 Tryd.laysItoa_ren))),
    f286 := Eq.trans Tryd.func52 (congrArg some (Eq.refl (Body.n286 Tryd.laysItoa_ren))),
    f317 := Eq.trans Tryd.func61 (congrArg some (Eq.refl (Body.n317 Tryd.laysItoa_ren))),
    f318 := Eq.trans Tryd.func63 (congrArg some (Eq.refl (Body.n318 Tryd.laysItoa_ren))),
    f319 := Eq.trans Tryd.func64 (congrArg some (Eq.refl (Body.n319 Tryd.laysItoa_ren))),
    f320 := Eq.trans Tryd.func65 (congrArg some (Eq.refl (Body.n320 Tryd.laysItoa_ren))),
    f337 := Eq.trans Tryd.func70 (congrArg some (Eq.refl (Body.n337 Tryd.laysItoa_ren))),
    f338 := Eq.trans Tryd.func71 (congrArg some (Eq.refl (Body.n338 Tryd.laysItoa_ren))), t0 := Tryd.underlying0,
    a0 := Tryd.isAgg0, z0 := Tryd.sizeOf0, v0 := Tryd.zeroValue0, t2 := Tryd.underlying2, a2 := Tryd.isAgg2,
    z2 := Tryd.sizeOf2, v2 := Tryd.zeroValue2, t3 := Tryd.underlying3, a3 := Tryd.isAgg3, z3 := Tryd.sizeOf3,
    v3 := Tryd.zeroValue3, t4 := Tryd.underlying4, a4 := Tryd.isAgg4, z4 := Tryd.sizeOf4, v4 := Tryd.zeroValue4,
    t5 := Tryd.underlying5, a5 := Tryd.isAgg5, z5 := Tryd.sizeOf5, v5 := Tryd.zeroValue5, t9 := Tryd.underlying9,
    a9 := Tryd.isAgg9, z9 := Tryd.sizeOf9, v9 := Tryd.zeroValue9, t20 := Tryd.underlying20, a20 := Tryd.isAgg20,
    z20 := Tryd.sizeOf20, v20 := Tryd.zeroValue20, t37 := Tryd.underlying54, a37 := Tryd.isAgg54, z37 := Tryd.sizeOf54,
    v37 := Tryd.zeroValue54, t46 := Tryd.underlying78, a46 := Tryd.isAgg78, z46 := Tryd.sizeOf78, v46 := Tryd.zeroValue78,
    t51 := Tryd.underlying86, a51 := Tryd.isAgg86, z51 := Tryd.sizeOf86, v51 := Tryd.zeroValue86,
    t53 := Tryd.underlying69, a53 := Tryd.isAgg69, z53 := Tryd.sizeOf69, v53 := Tryd.zeroValue69,
    t171 := Tryd.underlying68, a171 := Tryd.isAgg68, z171 := Tryd.sizeOf68, v171 := Tryd.zeroValue68,
    t173 := Tryd.underlying72, a173 := Tryd.isAgg72, z173 := Tryd.sizeOf72, v173 := Tryd.zeroValue72,
    t212 := Tryd.underlying85, a212 := Tryd.isAgg85, z212 := Tryd.sizeOf85, v212 := Tryd.zeroValue85,
    t213 := Tryd.underlying87, a213 := Tryd.isAgg87, z213 := Tryd.sizeOf87, t232 := Tryd.underlying97,
    a232 := Tryd.isAgg97, z232 := Tryd.sizeOf97, v232 := Tryd.zeroValue97, t233 := Tryd.underlying98,
    a233 := Tryd.isAgg98, z233 := Tryd.sizeOf98, v233 := Tryd.zeroValue98, g17 := by kernel_rfl,
    g18 := by kernel_rfl, g19 := by kernel_rfl,
    i0 := by kernel_rfl,
    i2 := by kernel_rfl,
    i3 := by kernel_rfl,
    i4 := by kernel_rfl,
    i5 := by kernel_rfl,
    i9 := by kernel_rfl,
    i20 := by kernel_rfl, i37 := by kernel_rfl,
    i46 := by kernel_rfl,
    i51 := by kernel_rfl,
    i53 := by kernel_rfl,
    i171 :=
      Eq.refl
        (some
          (some
              (Go.Value.agg
                #[Go.Value.int Go.IntKind.u8 0, Go.Value.int Go.IntKind.u8 0, Go.Value.int Go.IntKind.u8 0,
                  Go.Value.int Go.IntKind.u8 0, Go.Value.int Go.IntKind.u8 0, Go.Value.int Go.IntKind.u8 0,
                  Go.Value.int Go.IntKind.u8 0, Go.Value.int Go.IntKind.u8 0, Go.Value.int Go.IntKind.u8 0,
                  Go.Value.int Go.IntKind.u8 0, Go.Value.int Go.IntKind.u8 0, Go.Value.int Go.IntKind.u8 0,
                  Go.Value.int Go.IntKind.u8 0, Go.Value.int Go.IntKind.u8 0, Go.Value.int Go.IntKind.u8 0,
                  Go.Value.int Go.IntKind.u8 0, Go.Value.int Go.IntKind.u8 0, Go.Value.int Go.IntKind.u8 0,
                  Go.Value.int Go.IntKind.u8 0, Go.Value.int Go.IntKind.u8 0, Go.Value.int Go.IntKind.u8 0,
                  Go.Value.int Go.IntKind.u8 0, Go.Value.int Go.IntKind.u8 0, Go.Value.int Go.IntKind.u8 0]),
            24, 24)),
    i173 := by kernel_rfl,
    i212 :=
      Eq.refl
        (some
          (some
              (Go.Value.agg
                #[Go.Value.int Go.IntKind.u64 0, Go.Value.int Go.IntKind.u64 0, Go.Value.int Go.IntKind.u64 0,
                  Go.Value.int Go.IntKind.u64 0, Go.Value.int Go.IntKind.u64 0, Go.Value.int Go.IntKind.u64 0,
                  Go.Value.int Go.IntKind.u64 0, Go.Value.int Go.IntKind.u64 0, Go.Value.int Go.IntKind.u64 0,
                  Go.Value.int Go.IntKind.u64 0, Go.Value.int Go.IntKind.u64 0, Go.Value.int Go.IntKind.u64 0,
                  Go.Value.int Go.IntKind.u64 0, Go.Value.int Go.IntKind.u64 0, Go.Value.int Go.IntKind.u64 0,
                  Go.Value.int Go.IntKind.u64 0, Go.Value.int Go.IntKind.u64 0, Go.Value.int Go.IntKind.u64 0,
                  Go.Value.int Go.IntKind.u64 0, Go.Value.int Go.IntKind.u64 0]),
            20, 160)),
    i232 :=
      Eq.refl
        (some
          (some
              (Go.Value.agg
                #[Go.Value.int Go.IntKind.u8 0, Go.Value.int Go.IntKind.u8 0, Go.Value.int Go.IntKind.u8 0,
                  Go.Value.int Go.IntKind.u8 0, Go.Value.int Go.IntKind.u8 0, Go.Value.int Go.IntKind.u8 0,
                  Go.Value.int Go.IntKind.u8 0, Go.Value.int Go.IntKind.u8 0, Go.Value.int Go.IntKind.u8 0,
                  Go.Value.int Go.IntKind.u8 0, Go.Value.int Go.IntKind.u8 0, Go.Value.int Go.IntKind.u8 0,
                  Go.Value.int Go.IntKind.u8 0, Go.Value.int Go.IntKind.u8 0, Go.Value.int Go.IntKind.u8 0,
                  Go.Value.int Go.IntKind.u8 0, Go.Value.int Go.IntKind.u8 0, Go.Value.int Go.IntKind.u8 0,
                  Go.Value.int Go.IntKind.u8 0, Go.Value.int Go.IntKind.u8 0, Go.Value.int Go.IntKind.u8 0,
                  Go.Value.int Go.IntKind.u8 0, Go.Value.int Go.IntKind.u8 0, Go.Value.int Go.IntKind.u8 0,
                  Go.Value.int Go.IntKind.u8 0, Go.Value.int Go.IntKind.u8 0, Go.Value.int Go.IntKind.u8 0,
                  Go.Value.int Go.IntKind.u8 0, Go.Value.int Go.IntKind.u8 0, Go.Value.int Go.IntKind.u8 0,
                  Go.Value.int Go.IntKind.u8 0, Go.Value.int Go.IntKind.u8 0]),
            32, 32)),
    i233 :=
      Eq.refl
        (some
          (some
              (Go.Value.agg
                (let y :=
                    let y :=
                      let y :=
                        let y :=
                          [Go.Value.int Go.IntKind.u8 0, Go.Value.int Go.IntKind.u8 0, Go.Value.int Go.IntKind.u8 0,
                            Go.Value.int Go.IntKind.u8 0];
                        Go.Value.int Go.IntKind.u8 0 ::
                          Go.Value.int Go.IntKind.u8 0 ::
                            Go.Value.int Go.IntKind.u8 0 :: Go.Value.int Go.IntKind.u8 0 :: y;
                      let y :=
                        Go.Value.int Go.IntKind.u8 0 ::
                          Go.Value.int Go.IntKind.u8 0 ::
                            Go.Value.int Go.IntKind.u8 0 :: Go.Value.int Go.IntKind.u8 0 :: y;
                      Go.Value.int Go.IntKind.u8 0 ::
                        Go.Value.int Go.IntKind.u8 0 :: Go.Value.int Go.IntKind.u8 0 :: Go.Value.int Go.IntKind.u8 0 :: y;
                    let y :=
                      let y :=
                        Go.Value.int Go.IntKind.u8 0 ::
                          Go.Value.int Go.IntKind.u8 0 ::
                            Go.Value.int Go.IntKind.u8 0 :: Go.Value.int Go.IntKind.u8 0 :: y;
                      Go.Value.int Go.IntKind.u8 0 ::
                        Go.Value.int Go.IntKind.u8 0 :: Go.Value.int Go.IntKind.u8 0 :: Go.Value.int Go.IntKind.u8 0 :: y;
                    let y :=
                      Go.Value.int Go.IntKind.u8 0 ::
                        Go.Value.int Go.IntKind.u8 0 :: Go.Value.int Go.IntKind.u8 0 :: Go.Value.int Go.IntKind.u8 0 :: y;
                    Go.Value.int Go.IntKind.u8 0 ::
                      Go.Value.int Go.IntKind.u8 0 :: Go.Value.int Go.IntKind.u8 0 :: Go.Value.int Go.IntKind.u8 0 :: y;
                  let y :=
                    let y :=
                      let y :=
                        Go.Value.int Go.IntKind.u8 0 ::
                          Go.Value.int Go.IntKind.u8 0 ::
                            Go.Value.int Go.IntKind.u8 0 :: Go.Value.int Go.IntKind.u8 0 :: y;
                      Go.Value.int Go.IntKind.u8 0 ::
                        Go.Value.int Go.IntKind.u8 0 :: Go.Value.int Go.IntKind.u8 0 :: Go.Value.int Go.IntKind.u8 0 :: y;
                    let y :=
                      Go.Value.int Go.IntKind.u8 0 ::
                        Go.Value.int Go.IntKind.u8 0 :: Go.Value.int Go.IntKind.u8 0 :: Go.Value.int Go.IntKind.u8 0 :: y;
                    Go.Value.int Go.IntKind.u8 0 ::
                      Go.Value.int Go.IntKind.u8 0 :: Go.Value.int Go.IntKind.u8 0 :: Go.Value.int Go.IntKind.u8 0 :: y;
                  let y :=
                    let y :=
                      Go.Value.int Go.IntKind.u8 0 ::
                        Go.Value.int Go.IntKind.u8 0 :: Go.Value.int Go.IntKind.u8 0 :: Go.Value.int Go.IntKind.u8 0 :: y;
                    Go.Value.int Go.IntKind.u8 0 ::
                      Go.Value.int Go.IntKind.u8 0 :: Go.Value.int Go.IntKind.u8 0 :: Go.Value.int Go.IntKind.u8 0 :: y;
                  let y :=
                    Go.Value.int Go.IntKind.u8 0 ::
                      Go.Value.int Go.IntKind.u8 0 :: Go.Value.int Go.IntKind.u8 0 :: Go.Value.int Go.IntKind.u8 0 :: y;
                  Go.Value.int Go.IntKind.u8 0 ::
                    Go.Value.int Go.IntKind.u8 0 ::
                      Go.Value.int Go.IntKind.u8 0 :: Go.Value.int Go.IntKind.u8 0 :: y).toArray),
            64, 64)),
    m17 := by kernel_rfl, m18 := by kernel_rfl,
    m19 := by kernel_rfl }
def Tryd.laysAtoi_ren : Go.Shelf.Ren :=
  {
    f := fun x =>
      match x with
      | 172 => 31
      | 244 => 39
      | 245 => 40
      | 247 => 44
      | 279 => 45
      | 280 => 46
      | 281 => 47
      | 282 => 48
      | 287 => 58
      | 316 => 59
      | 171 => 27
      | 205 => 60
      | 321 => 68
      | 322 => 69
      | 243 => 35
      | 246 => 41
      | 283 => 49
      | 284 => 50
      | 285 => 51
      | 286 => 52
      | 129 => 62
      | 317 => 61
      | 318 => 63
      | 319 => 64
      | 320 => 65
      | 337 => 70
      | 338 => 71
      | n => n,
    t := fun x =>
      match x with
      | 9 => 9
      | 3 => 3
      | 75 => 48
      | 76 => 49
      | 4 => 4
      | 5 => 5
      | 167 => 62
      | 37 => 54
      | 0 => 0
      | 85 => 63
      | 2 => 2
      | 168 => 65
      | 53 => 69
      | 175 => 79
      | 46 => 78
      | 210 => 82
      | 127 => 60
      | 145 => 95
      | 143 => 93
      | 21 => 21
      | 171 => 68
      | 173 => 72
      | 212 => 85
      | 51 => 86
      | 20 => 20
      | 213 => 87
      | 232 => 97
      | 233 => 98
      | 80 => 57
      | n => n,
    g := fun x =>
      match x with
      | 15 => 1
      | 16 => 2
      | 17 => 3
      | 18 => 4
      | 19 => 5
      | n => n }
theorem Tryd.laysAtoi : LaysC.n172 Tryd.prog Tryd.laysAtoi_ren :=
  { mixed := by kernel_rfl, f129 := Eq.trans Tryd.func62 (congrArg some (Eq.refl (Body.n129 Tryd.laysAtoi_ren))),
    f171 := Eq.trans Tryd.func27 (congrArg some (Eq.refl (Body.n171 Tryd.laysAtoi_ren))),
    f172 := Eq.trans Tryd.func31 (congrArg some (Eq.refl (Body.n172 Tryd.laysAtoi_ren))),
    f205 := Eq.trans Tryd.func60 (congrArg some (Eq.refl (Body.n205 Tryd.laysAtoi_ren))),
    f243 := Eq.trans Tryd.func35 (congrArg some (Eq.refl (Body.n243 Tryd.laysAtoi_ren))),
    f244 := Eq.trans Tryd.func39 (congrArg some (Eq.refl (Body.n244 Tryd.laysAtoi_ren))),
    f245 := Eq.trans Tryd.func40 (congrArg some (Eq.refl (Body.n245 Tryd.laysAtoi_ren))),
    f246 := Eq.trans Tryd.func41 (congrArg some (Eq.refl (Body.n246 Tryd.laysAtoi_ren))),
    f247 := Eq.trans Tryd.func44 (congrArg some (Eq.refl (Body.n247 Tryd.laysAtoi_ren))),
    f279 := Eq.trans Tryd.func45 (congrArg some (Eq.refl (Body.n279 Tryd.laysAtoi_ren))),
    f280 := Eq.trans Tryd.func46 (congrArg some (Eq.refl (Body.n280 Tryd.laysAtoi_ren))),
    f281 := Eq.trans Tryd.func47 (congrArg some (Eq.refl (Body.n281 Tryd.laysAtoi_ren))),
    f282 := Eq.trans Tryd.func48 (congrArg some (Eq.refl (Body.n282 Tryd.laysAtoi_ren))),
    f283 := Eq.trans Tryd.func49 (congrArg some (Eq.refl (Body.n283 Tryd.laysAtoi_ren))),
    f284 := Eq.trans Tryd.func50 (congrArg some (Eq.refl (Body.n284 Tryd.laysAtoi_ren))),
    f285 := Eq.trans Tryd.func51 (congrArg some (Eq.refl (Body.n285 Tryd.laysAtoi_ren))),
    f286 := Eq.trans Tryd.func52 (congrArg some (Eq.refl (Body.n286 Tryd.laysAtoi_ren))),
    f287 := Eq.trans Tryd.func58 (congrArg some (Eq.refl (Body.n287 Tryd.laysAtoi_ren))),
    f316 := Eq.trans Tryd.func59 (congrArg some (Eq.refl (Body.n316 Tryd.laysAtoi_ren))),
    f317 := Eq.trans Tryd.func61 (congrArg some (Eq.refl (Body.n317 Tryd.laysAtoi_ren))),
    f318 := Eq.trans Tryd.func63 (congrArg some (Eq.refl (Body.n318 Tryd.laysAtoi_ren))),
    f319 := Eq.trans Tryd.func64 (congrArg some (Eq.refl (Body.n319 Tryd.laysAtoi_ren))),
    f320 := Eq.trans Tryd.func65 (congrArg some (Eq.refl (Body.n320 Tryd.laysAtoi_ren))),
    f321 := Eq.trans Tryd.func68 (congrArg some (Eq.refl (Body.n321 Tryd.laysAtoi_ren))),
    f322 := Eq.trans Tryd.func69 (congrArg some (Eq.refl (Body.n322 Tryd.laysAtoi_ren))),
    f337 := Eq.trans Tryd.func70 (congrArg some (Eq.refl (Body.n337 Tryd.laysAtoi_ren))),
    f338 := Eq.trans Tryd.func71 (congrArg some (Eq.refl (Body.n338 Tryd.laysAtoi_ren))), t0 := Tryd.underlying0,
    a0 := Tryd.isAgg0, z0 := Tryd.sizeOf0, v0 := Tryd.zeroValue0, t2 := Tryd.underlying2, a2 := Tryd.isAgg2,
    z2 := Tryd.sizeOf2, v2 := Tryd.zeroValue2, t3 := Tryd.underlying3, a3 := Tryd.isAgg3, z3 := Tryd.sizeOf3,
    v3 := Tryd.zeroValue3, t4 := Tryd.underlying4, a4 := Tryd.isAgg4, z4 := Tryd.sizeOf4, v4 := Tryd.zeroValue4,
    t5 := Tryd.underlying5, a5 := Tryd.isAgg5, z5 := Tryd.sizeOf5, v5 := Tryd.zeroValue5, t9 := Tryd.underlying9,
    a9 := Tryd.isAgg9, z9 := Tryd.sizeOf9, v9 := Tryd.zeroValue9, t20 := Tryd.underlying20, a20 := Tryd.isAgg20,
    z20 := Tryd.sizeOf20, v20 := Tryd.zeroValue20, t21 := Tryd.underlying21, a21 := Tryd.isAgg21, z21 := Tryd.sizeOf21,
    v21 := Tryd.zeroValue21, t37 := Tryd.underlying54, a37 := Tryd.isAgg54, z37 := Tryd.sizeOf54, v37 := Tryd.zeroValue54,
    t46 := Tryd.underlying78, a46 := Tryd.isAgg78, z46 := Tryd.sizeOf78, v46 := Tryd.zeroValue78,
    t51 := Tryd.underlying86, a51 := Tryd.isAgg86, z51 := Tryd.sizeOf86, v51 := Tryd.zeroValue86,
    t53 := Tryd.underlying69, a53 := Tryd.isAgg69, z53 := Tryd.sizeOf69, v53 := Tryd.zeroValue69,
    t75 := Tryd.underlying48, a75 := Tryd.isAgg48, z75 := Tryd.sizeOf48, v75 := Tryd.zeroValue48,
    t76 := Tryd.underlying49, a76 := Tryd.isAgg49, z76 := Tryd.sizeOf49, v76 := Tryd.zeroValue49,
    t85 := Tryd.underlying63, a85 := Tryd.isAgg63, z85 := Tryd.sizeOf63, v85 := Tryd.zeroValue63,
    t127 := Tryd.underlying60, a127 := Tryd.isAgg60, z127 := Tryd.sizeOf60, v127 := Tryd.zeroValue60,
    t143 := Tryd.underlying93, a143 := Tryd.isAgg93, z143 := Tryd.sizeOf93, v143 := Tryd.zeroValue93,
    t145 := Tryd.underlying95, a145 := Tryd.isAgg95, z145 := Tryd.sizeOf95, v145 := Tryd.zeroValue95,
    t167 := Tryd.underlying62, a167 := Tryd.isAgg62, z167 := Tryd.sizeOf62, v167 := Tryd.zeroValue62,
    t168 := Tryd.underlying65, a168 := Tryd.isAgg65, z168 := Tryd.sizeOf65, v168 := Tryd.zeroValue65,
    t171 := Tryd.underlying68, a171 := Tryd.isAgg68, z171 := Tryd.sizeOf68, v171 := Tryd.zeroValue68,
    t173 := Tryd.underlying72, a173 := Tryd.isAgg72, z173 := Tryd.sizeOf72, v173 := Tryd.zeroValue72,
    t175 := Tryd.underlying79, a175 := Tryd.isAgg79, z175 := Tryd.sizeOf79, v175 := Tryd.zeroValue79,
    t210 := Tryd.underlying82, a210 := Tryd.isAgg82, z210 := Tryd.sizeOf82, v210 := Tryd.zeroValue82,
    t212 := Tryd.underlying85, a212 := Tryd.isAgg85, z212 := Tryd.sizeOf85, v212 := Tryd.zeroValue85,
    t213 := Tryd.underlying87, a213 := Tryd.isAgg87, z213 := Tryd.sizeOf87, t232 := Tryd.underlying97,
    a232 := Tryd.isAgg97, z232 := Tryd.sizeOf97, v232 := Tryd.zeroValue97, t233 := Tryd.underlying98,
    a233 := Tryd.isAgg98, z233 := Tryd.sizeOf98, v233 := Tryd.zeroValue98, g15 := by kernel_rfl,
    g16 := by kernel_rfl, g17 := by kernel_rfl,
    g18 := by kernel_rfl, g19 := by kernel_rfl,
    t80 := Tryd.underlying57, a80 := Tryd.isAgg57, z80 := Tryd.sizeOf57, v80 := Tryd.zeroValue57,
    i0 := by kernel_rfl,
    i2 := by kernel_rfl,
    i3 := by kernel_rfl,
    i4 := by kernel_rfl,
    i5 := by kernel_rfl,
    i9 := by kernel_rfl,
    i20 := by kernel_rfl,
    i21 := by kernel_rfl,
    i37 := by kernel_rfl,
    i46 := by kernel_rfl,
    i51 := by kernel_rfl,
    i53 := by kernel_rfl,
    i75 := by kernel_rfl,
    i76 := by kernel_rfl,
    i80 := by kernel_rfl,
    i85 := by kernel_rfl,
    i127 := by kernel_rfl,
    i143 := by kernel_rfl,
    i145 := by kernel_rfl,
    i167 := by kernel_rfl,
    i168 := by kernel_rfl,
    i171 :=
      Eq.refl
        (some
          (some
              (Go.Value.agg
                #[Go.Value.int Go.IntKind.u8 0, Go.Value.int Go.IntKind.u8 0, Go.Value.int Go.IntKind.u8 0,
                  Go.Value.int Go.IntKind.u8 0, Go.Value.int Go.IntKind.u8 0, Go.Value.int Go.IntKind.u8 0,
                  Go.Value.int Go.IntKind.u8 0, Go.Value.int Go.IntKind.u8 0, Go.Value.int Go.IntKind.u8 0,
                  Go.Value.int Go.IntKind.u8 0, Go.Value.int Go.IntKind.u8 0, Go.Value.int Go.IntKind.u8 0,
                  Go.Value.int Go.IntKind.u8 0, Go.Value.int Go.IntKind.u8 0, Go.Value.int Go.IntKind.u8 0,
                  Go.Value.int Go.IntKind.u8 0, Go.Value.int Go.IntKind.u8 0, Go.Value.int Go.IntKind.u8 0,
                  Go.Value.int Go.IntKind.u8 0, Go.Value.int Go.IntKind.u8 0, Go.Value.int Go.IntKind.u8 0,
                  Go.Value.int Go.IntKind.u8 0, Go.Value.int Go.IntKind.u8 0, Go.Value.int Go.IntKind.u8 0]),
            24, 24)),
    i173 := by kernel_rfl,
    i175 := by kernel_rfl,
    i210 :=
      Eq.refl
        (some
          (some (Go.Value.agg #[Go.Value.string { data := #[] }, Go.Value.string { data := #[] }, Go.Value.nilIface]), 3,
            48)),
    i212 :=
      Eq.refl
        (some
          (some
              (Go.Value.agg
                #[Go.Value.int Go.IntKind.u64 0, Go.Value.int Go.IntKind.u64 0, Go.Value.int Go.IntKind.u64 0,
                  Go.Value.int Go.IntKind.u64 0, Go.Value.int Go.IntKind.u64 0, Go.Value.int Go.IntKind.u64 0,
                  Go.Value.int Go.IntKind.u64 0, Go.Value.int Go.IntKind.u64 0, Go.Value.int Go.IntKind.u64 0,
                  Go.Value.int Go.IntKind.u64 0, Go.Value.int Go.IntKind.u64 0, Go.Value.int Go.IntKind.u64 0,
                  Go.Value.int Go.IntKind.u64 0, Go.Value.int Go.IntKind.u64 0, Go.Value.int Go.IntKind.u64 0,
                  Go.Value.int Go.IntKind.u64 0, Go.Value.int Go.IntKind.u64 0, Go.Value.int Go.IntKind.u64 0,
                  Go.Value.int Go.IntKind.u64 0, Go.Value.int Go.IntKind.u64 0]),
            20, 160)),
    i232 :=
      Eq.refl
        (some
          (some
              (Go.Value.agg
                #[Go.Value.int Go.IntKind.u8 0, Go.Value.int Go.IntKind.u8 0, Go.Value.int Go.IntKind.u8 0,
                  Go.Value.int Go.IntKind.u8 0, Go.Value.int Go.IntKind.u8 0, Go.Value.int Go.IntKind.u8 0,
                  Go.Value.int Go.IntKind.u8 0, Go.Value.int Go.IntKind.u8 0, Go.Value.int Go.IntKind.u8 0,
                  Go.Value.int Go.IntKind.u8 0, Go.Value.int Go.IntKind.u8 0, Go.Value.int Go.IntKind.u8 0,
                  Go.Value.int Go.IntKind.u8 0, Go.Value.int Go.IntKind.u8 0, Go.Value.int Go.IntKind.u8 0,
                  Go.Value.int Go.IntKind.u8 0, Go.Value.int Go.IntKind.u8 0, Go.Value.int Go.IntKind.u8 0,
                  Go.Value.int Go.IntKind.u8 0, Go.Value.int Go.IntKind.u8 0, Go.Value.int Go.IntKind.u8 0,
                  Go.Value.int Go.IntKind.u8 0, Go.Value.int Go.IntKind.u8 0, Go.Value.int Go.IntKind.u8 0,
                  Go.Value.int Go.IntKind.u8 0, Go.Value.int Go.IntKind.u8 0, Go.Value.int Go.IntKind.u8 0,
                  Go.Value.int Go.IntKind.u8 0, Go.Value.int Go.IntKind.u8 0, Go.Value.int Go.IntKind.u8 0,
                  Go.Value.int Go.IntKind.u8 0, Go.Value.int Go.IntKind.u8 0]),
            32, 32)),
    i233 :=
      Eq.refl
        (some
          (some
              (Go.Value.agg
                (let y :=
                    let y :=
                      let y :=
                        let y :=
                          [Go.Value.int Go.IntKind.u8 0, Go.Value.int Go.IntKind.u8 0, Go.Value.int Go.IntKind.u8 0,
                            Go.Value.int Go.IntKind.u8 0];
                        Go.Value.int Go.IntKind.u8 0 ::
                          Go.Value.int Go.IntKind.u8 0 ::
                            Go.Value.int Go.IntKind.u8 0 :: Go.Value.int Go.IntKind.u8 0 :: y;
                      let y :=
                        Go.Value.int Go.IntKind.u8 0 ::
                          Go.Value.int Go.IntKind.u8 0 ::
                            Go.Value.int Go.IntKind.u8 0 :: Go.Value.int Go.IntKind.u8 0 :: y;
                      Go.Value.int Go.IntKind.u8 0 ::
                        Go.Value.int Go.IntKind.u8 0 :: Go.Value.int Go.IntKind.u8 0 :: Go.Value.int Go.IntKind.u8 0 :: y;
                    let y :=
                      let y :=
                        Go.Value.int Go.IntKind.u8 0 ::
                          Go.Value.int Go.IntKind.u8 0 ::
                            Go.Value.int Go.IntKind.u8 0 :: Go.Value.int Go.IntKind.u8 0 :: y;
                      Go.Value.int Go.IntKind.u8 0 ::
                        Go.Value.int Go.IntKind.u8 0 :: Go.Value.int Go.IntKind.u8 0 :: Go.Value.int Go.IntKind.u8 0 :: y;
                    let y :=
                      Go.Value.int Go.IntKind.u8 0 ::
                        Go.Value.int Go.IntKind.u8 0 :: Go.Value.int Go.IntKind.u8 0 :: Go.Value.int Go.IntKind.u8 0 :: y;
                    Go.Value.int Go.IntKind.u8 0 ::
                      Go.Value.int Go.IntKind.u8 0 :: Go.Value.int Go.IntKind.u8 0 :: Go.Value.int Go.IntKind.u8 0 :: y;
                  let y :=
                    let y :=
                      let y :=
                        Go.Value.int Go.IntKind.u8 0 ::
                          Go.Value.int Go.IntKind.u8 0 ::
                            Go.Value.int Go.IntKind.u8 0 :: Go.Value.int Go.IntKind.u8 0 :: y;
                      Go.Value.int Go.IntKind.u8 0 ::
                        Go.Value.int Go.IntKind.u8 0 :: Go.Value.int Go.IntKind.u8 0 :: Go.Value.int Go.IntKind.u8 0 :: y;
                    let y :=
                      Go.Value.int Go.IntKind.u8 0 ::
                        Go.Value.int Go.IntKind.u8 0 :: Go.Value.int Go.IntKind.u8 0 :: Go.Value.int Go.IntKind.u8 0 :: y;
                    Go.Value.int Go.IntKind.u8 0 ::
                      Go.Value.int Go.IntKind.u8 0 :: Go.Value.int Go.IntKind.u8 0 :: Go.Value.int Go.IntKind.u8 0 :: y;
                  let y :=
                    let y :=
                      Go.Value.int Go.IntKind.u8 0 ::
                        Go.Value.int Go.IntKind.u8 0 :: Go.Value.int Go.IntKind.u8 0 :: Go.Value.int Go.IntKind.u8 0 :: y;
                    Go.Value.int Go.IntKind.u8 0 ::
                      Go.Value.int Go.IntKind.u8 0 :: Go.Value.int Go.IntKind.u8 0 :: Go.Value.int Go.IntKind.u8 0 :: y;
                  let y :=
                    Go.Value.int Go.IntKind.u8 0 ::
                      Go.Value.int Go.IntKind.u8 0 :: Go.Value.int Go.IntKind.u8 0 :: Go.Value.int Go.IntKind.u8 0 :: y;
                  Go.Value.int Go.IntKind.u8 0 ::
                    Go.Value.int Go.IntKind.u8 0 ::
                      Go.Value.int Go.IntKind.u8 0 :: Go.Value.int Go.IntKind.u8 0 :: y).toArray),
            64, 64)),
    m15 := by kernel_rfl, m16 := by kernel_rfl,
    m17 := by kernel_rfl, m18 := by kernel_rfl,
    m19 := by kernel_rfl, c0 := by kernel_rfl, c2 := by kernel_rfl,
    c3 := by kernel_rfl, c4 := by kernel_rfl, c5 := by kernel_rfl, c9 := by kernel_rfl,
    c20 := by kernel_rfl, c21 := by kernel_rfl, c37 := by kernel_rfl, c46 := by kernel_rfl,
    c51 := by kernel_rfl, c53 := by kernel_rfl, c75 := by kernel_rfl, c76 := by kernel_rfl,
    c80 := by kernel_rfl, c85 := by kernel_rfl, c127 := by kernel_rfl, c143 := by kernel_rfl,
    c145 := by kernel_rfl, c167 := by kernel_rfl, c168 := by kernel_rfl, c171 := by kernel_rfl,
    c173 := by kernel_rfl, c175 := by kernel_rfl, c210 := by kernel_rfl, c212 := by kernel_rfl,
    c213 := by kernel_rfl, c232 := by kernel_rfl, c233 := by kernel_rfl }
def Tryd.laysString_ren : Go.Shelf.Ren :=
  {
    f := fun x =>
      match x with
      | 169 => 37
      | n => n,
    t := fun x =>
      match x with
      | 70 => 53
      | 9 => 9
      | 0 => 0
      | 72 => 56
      | 37 => 54
      | 127 => 60
      | 3 => 3
      | 5 => 5
      | n => n,
    g := fun x =>
      have n := x;
      n }
theorem Tryd.laysString : Lays.n169 Tryd.prog Tryd.laysString_ren :=
  { mixed := by kernel_rfl, f169 := Eq.trans Tryd.func37 (congrArg some (Eq.refl (Body.n169 Tryd.laysString_ren))),
    t0 := Tryd.underlying0, a0 := Tryd.isAgg0, z0 := Tryd.sizeOf0, v0 := Tryd.zeroValue0, t3 := Tryd.underlying3,
    a3 := Tryd.isAgg3, z3 := Tryd.sizeOf3, v3 := Tryd.zeroValue3, t9 := Tryd.underlying9, a9 := Tryd.isAgg9,
    z9 := Tryd.sizeOf9, v9 := Tryd.zeroValue9, t37 := Tryd.underlying54, a37 := Tryd.isAgg54, z37 := Tryd.sizeOf54,
    v37 := Tryd.zeroValue54, t70 := Tryd.underlying53, a70 := Tryd.isAgg53, z70 := Tryd.sizeOf53, v70 := Tryd.zeroValue53,
    t72 := Tryd.underlying56, a72 := Tryd.isAgg56, z72 := Tryd.sizeOf56, v72 := Tryd.zeroValue56,
    t127 := Tryd.underlying60, a127 := Tryd.isAgg60, z127 := Tryd.sizeOf60, v127 := Tryd.zeroValue60 }
end Go.Proofs


set_option maxRecDepth 100000
namespace Go.Proofs
open Go.Shelf Go.RowKit
theorem ri_cut (s sep : ByteArray) (m : Int) (w : World) (hs : s.size < 4294967281) (hm : w.cell? ⟨0, 0, none⟩ = some (.int .i64 m)) :
    Calls Tryd.prog 30 #[.string s, .string sep] w fun e w' => e = .returned (.tuple #[.string ⟨(Lib.cut s.data.toList sep.data.toList).1.toArray⟩, .string ⟨(Lib.cut s.data.toList sep.data.toList).2.1.toArray⟩, .bool (Lib.cut s.data.toList sep.data.toList).2.2]) ∧ ∃ n, w' = w.drewN n := Any.strings_Cut Tryd.laysCut s sep m w hs hm
theorem ri_ok (s : ByteArray) (hmax : s.size ≤ 9223372036854775806) (v : Int) (h : Lib.atoiAll s.data.toList = .ok v) (w : World) :
    Calls Tryd.prog 31 #[.string s] w fun e w' => e = .returned (.tuple #[.int .i64 v, .nilIface]) ∧ (w' = w ∨ ∃ t, w' = Lib.bytesWorld w 5 t) := Any.strconv_Atoi_ok Tryd.laysAtoi s hmax v h w
theorem ri_itoa (n : Int) (h0 : -9223372036854775808 ≤ n) (h1 : n ≤ 9223372036854775807) (w : World) (htab : Lib.TabIs Tryd.prog w "internal/strconv.uint64pow10" .u64 Lib.pow10Tab) :
    Calls Tryd.prog 27 #[.int .i64 n] w fun e w' => e = .returned (.string ⟨(Lib.itoa n).toArray⟩) ∧ ∃ k os, w' = Sort.grow (w.drewN k) os := Any.strconv_Itoa Tryd.laysItoa n h0 h1 w htab
theorem ri_none (s : ByteArray) (m : Int) (w : World) (hm : w.cell? ⟨0, 0, none⟩ = some (.int .i64 m)) (x y : List UInt8) (hc : Lib.cut (s.data.toList.take (min (s.size : Int) 21).toNat) [59] = (x, y, false)) :
    Calls Tryd.prog 17 #[.string s] w fun e w' => e = .returned (.tuple #[.int .i64 0, .string ⟨#[]⟩, .bool false]) ∧ ∃ n, w' = w.drewN n := by
  go_enter Tryd.func17, Tryd.ntmps17
  go_wp2_with (go_at_call 30; refine (ri_cut _ _ m _ ?_ hm).mono ?_)
  · simp only [ByteArray.size_extract]; omega
  rintro e w' rfl n rfl
  go_wp2
  go_ret3
  exact ⟨rfl, _, rfl⟩
theorem ri_yes (s : ByteArray) (m : Int) (w : World) (hm : w.cell? ⟨0, 0, none⟩ = some (.int .i64 m)) (x y : List UInt8) (hc : Lib.cut (s.data.toList.take (min (s.size : Int) 21).toNat) [59] = (x, y, true)) (hx : x.length ≤ 20) (hxs : x.length + 1 ≤ s.size) (v : Int) (hv : Lib.atoiAll x = .ok v)
    (h0 : -9223372036854775808 ≤ v) (h1 : v ≤ 9223372036854775807) (htab : ∀ w', Below w.heap.size w w' → Lib.TabIs Tryd.prog w' "internal/strconv.uint64pow10" .u64 Lib.pow10Tab) :
    Calls Tryd.prog 17 #[.string s] w fun e w' => e = .returned (if Lib.itoa v = x then .tuple #[.int .i64 v, .string ⟨(s.data.toList.drop (x.length + 1)).toArray⟩, .bool true] else .tuple #[.int .i64 0, .string ⟨#[]⟩, .bool false]) ∧ Below w.heap.size w w' := by
  go_enter Tryd.func17, Tryd.ntmps17
  go_wp2_with (go_at_call 30; refine (ri_cut _ _ m _ ?_ hm).mono ?_)
  · simp only [ByteArray.size_extract]; omega
  rintro e w' rfl n rfl
  go_wp2_with (go_at_call 31; refine (ri_ok _ ?_ v hv _).mono ?_)
  · show x.toArray.size ≤ _
    simp; omega
  rintro e w' ⟨rfl, hw⟩
  have hwb : Below w.heap.size w w' := by
    rcases hw with rfl | ⟨t, rfl⟩
    · exact ⟨rfl, rfl, rfl, Nat.le_refl _, fun _ _ => rfl⟩
    · have h9 := Lib.bytesWorld_below (w.drewN n) 5 t
      exact Below.trans (show Below w.heap.size w (w.drewN n) from ⟨rfl, rfl, rfl, Nat.le_refl _, fun _ _ => rfl⟩) h9
  go_wp2_with (go_at_call 27; refine (ri_itoa v h0 h1 _ ?_).mono ?_)
  · exact htab _ hwb
  rintro e w'' ⟨rfl, k, os, rfl⟩
  have hb2 : Below w.heap.size w (Sort.grow (w'.drewN k) os) := hwb.trans ⟨rfl, rfl, rfl, by show w'.heap.size ≤ (w'.heap ++ os).size; rw [Array.size_append]; omega, fun b hb => by
    show (w'.heap ++ os)[b]? = _
    exact Array.getElem?_append_left (Nat.lt_of_lt_of_le hb hwb.size)⟩
  generalize Sort.grow (w'.drewN k) os = w2 at hb2
  have hsz : (⟨x.toArray⟩ : ByteArray).size = x.length := by show x.toArray.size = _; simp
  have hwr : IntKind.i64.wrap ((x.length : Int) + 1) = (x.length : Int) + 1 := by unfold IntKind.wrap; simp [IntKind.signed, IntKind.bits]; omega
  have hsl : (x.length : Int) + 1 ≤ s.size := by omega
  by_cases hi : Lib.itoa v = x
  · subst hi
    go_wp2
    go_quiet (fail)
    go_wp2
    go_ret3
    refine ⟨?_, hb2.trans ⟨rfl, rfl, rfl, Nat.le_refl _, fun _ _ => rfl⟩⟩
    have hex : s.extract ((Lib.itoa v).length + 1) s.size = ⟨(s.data.toList.drop ((Lib.itoa v).length + 1)).toArray⟩ := by
      have hl : s.size = s.data.toList.length := by rw [Array.length_toList]; rfl
      apply ByteArray.ext
      apply Array.ext'
      rw [ByteArray.data_extract, hl, Array.toList_extract, List.extract_eq_take_drop]
      exact List.take_of_length_le (by rw [List.length_drop]; omega)
    first
      | (rw [← hex]; rfl)
      | (rw [if_pos rfl, ← hex]; rfl)
  · have hne : ¬ (⟨(Lib.itoa v).toArray⟩ : ByteArray) = ⟨x.toArray⟩ := fun e => hi (by simpa using congrArg (fun b : ByteArray => b.data.toList) e)
    go_wp2
    · go_ret3
      exact ⟨rfl, hb2⟩
    · exfalso
      simp_all
theorem ri_fail (s : ByteArray) (hlim : s.size ≤ 281474976710656) (h : ∀ v, Lib.atoiAll s.data.toList ≠ .ok v) (w : World)
    (ev1 ev2 : Value) (h1 : w.cell? ⟨Tryd.laysAtoi_ren.g 15, 0, none⟩ = some ev1) (he1 : ev1 = .nilIface ∨ ∃ te pe, ev1 = .iface te pe) (h2 : w.cell? ⟨Tryd.laysAtoi_ren.g 16, 0, none⟩ = some ev2) (he2 : ev2 = .nilIface ∨ ∃ te pe, ev2 = .iface te pe) :
    Calls Tryd.prog 31 #[.string s] w fun e w' => ∃ n N, e = .returned (.tuple #[.int .i64 n, .iface (Tryd.laysAtoi_ren.t 168) (.pointer (some ⟨N, 0, none⟩))]) ∧ Below w.heap.size w w' := by
  cases hx : Lib.atoiAll s.data.toList with
  | ok v => exact absurd hx (h v)
  | range =>
    refine (Any.strconv_Atoi_range Tryd.laysAtoi s hlim hx ev2 w h2 he2).mono ?_
    rintro e w' ⟨N, rfl, -, -, hb⟩
    exact ⟨_, N, rfl, hb⟩
  | _ =>
    refine (Any.strconv_Atoi_syntax Tryd.laysAtoi s hlim hx ev1 w h1 he1).mono ?_
    rintro e w' ⟨N, rfl, -, -, hb⟩
    exact ⟨_, N, rfl, hb⟩
theorem ri_bad (s : ByteArray) (m : Int) (w : World) (hm : w.cell? ⟨0, 0, none⟩ = some (.int .i64 m)) (x y : List UInt8) (hc : Lib.cut (s.data.toList.take (min (s.size : Int) 21).toNat) [59] = (x, y, true)) (hx : x.length ≤ 20)
    (h : ∀ v, Lib.atoiAll x ≠ .ok v)
    (ev1 ev2 : Value) (h1 : w.cell? ⟨Tryd.laysAtoi_ren.g 15, 0, none⟩ = some ev1) (he1 : ev1 = .nilIface ∨ ∃ te pe, ev1 = .iface te pe) (h2 : w.cell? ⟨Tryd.laysAtoi_ren.g 16, 0, none⟩ = some ev2) (he2 : ev2 = .nilIface ∨ ∃ te pe, ev2 = .iface te pe) :
    Calls Tryd.prog 17 #[.string s] w fun e w' => e = .returned (.tuple #[.int .i64 0, .string ⟨#[]⟩, .bool false]) ∧ Below w.heap.size w w' := by
  go_enter Tryd.func17, Tryd.ntmps17
  go_wp2_with (go_at_call 30; refine (ri_cut _ _ m _ ?_ hm).mono ?_)
  · simp only [ByteArray.size_extract]; omega
  rintro e w' rfl n rfl
  have hf := ri_fail ⟨x.toArray⟩ (by show x.toArray.size ≤ _; simp; omega) (show ∀ v, Lib.atoiAll (⟨x.toArray⟩ : ByteArray).data.toList ≠ .ok v from h) (w.drewN n) ev1 ev2 h1 he1 h2 he2
  go_wp2_with (go_at_call 31; refine hf.mono ?_)
  rintro e w' ⟨nn, N, rfl, hb⟩
  go_wp2
  go_ret3
  exact ⟨rfl, Below.trans (show Below w.heap.size w (w.drewN n) from ⟨rfl, rfl, rfl, Nat.le_refl _, fun _ _ => rfl⟩) hb⟩
end Go.Proofs


set_option maxRecDepth 10000
namespace Go.Wire
open Go.Lib
theorem index_semi : ∀ t : Txt, index t [59] = if (59 : UInt8) ∈ t then ((t.takeWhile fun c => decide (c ≠ 59)).length : Int) else -1
  | [] => rfl
  | b :: l => by
    have ih := index_semi l
    rw [index]
    by_cases hb : b = 59
    · subst hb
      have e : ([59] : List UInt8).isPrefixOf (59 :: l) = true := by simp [List.isPrefixOf]
      rw [e]
      simp
    · have e : ([59] : List UInt8).isPrefixOf (b :: l) = false := by
        simp only [List.isPrefixOf, Bool.and_true, beq_eq_false_iff_ne]
        exact fun h => hb h.symm
      rw [e, ih]
      have hm : (59 : UInt8) ∈ b :: l ↔ 59 ∈ l := ⟨fun h => (List.mem_cons.1 h).resolve_left (fun h => hb h.symm), List.mem_cons_of_mem _⟩
      by_cases h : (59 : UInt8) ∈ l
      · rw [if_pos h, if_pos (hm.2 h), List.takeWhile_cons_of_pos (by simpa using hb)]
        have : ¬ (((l.takeWhile fun c => decide (c ≠ 59)).length : Int) == -1) = true := by
          simp only [beq_iff_eq]; omega
        simp only [Bool.false_eq_true, if_false, this, List.length_cons]
        push_cast; rfl
      · rw [if_neg h, if_neg (fun h2 => h (hm.1 h2))]
        rfl
theorem cut_semi (t : Txt) : (cut t [59]).2.2 = decide ((59 : UInt8) ∈ t) ∧ ((59 : UInt8) ∈ t → (cut t [59]).1 = t.takeWhile fun c => decide (c ≠ 59)) := by
  unfold cut
  rw [index_semi]
  by_cases h : (59 : UInt8) ∈ t
  · rw [if_pos h, if_pos (by omega)]
    refine ⟨by simp [h], fun _ => ?_⟩
    obtain ⟨r, hr⟩ := cut_at h
    generalize (t.takeWhile fun c => decide (c ≠ 59)) = x at hr ⊢
    show t.take (x.length : Int).toNat = x
    rw [hr, Int.toNat_natCast]
    simp
  · rw [if_neg h, if_neg (by omega)]
    exact ⟨by simp [h], fun h2 => absurd h2 h⟩
end Go.Wire


set_option maxRecDepth 100000
namespace Go.Proofs
open Go.Shelf Go.RowKit Go.Wire
def riV (t : Txt) : Value := match rI t with
  | some (n, r) => .tuple #[.int .i64 n, .string ⟨r.toArray⟩, .bool true]
  | none => .tuple #[.int .i64 0, .string ⟨#[]⟩, .bool false]
theorem readInt (s : ByteArray) (m : Int) (w : World) (hm : w.cell? ⟨0, 0, none⟩ = some (.int .i64 m)) (htab : ∀ w', Below w.heap.size w w' → Lib.TabIs Tryd.prog w' "internal/strconv.uint64pow10" .u64 Lib.pow10Tab)
    (ev1 ev2 : Value) (h1 : w.cell? ⟨Tryd.laysAtoi_ren.g 15, 0, none⟩ = some ev1) (he1 : ev1 = .nilIface ∨ ∃ te pe, ev1 = .iface te pe) (h2 : w.cell? ⟨Tryd.laysAtoi_ren.g 16, 0, none⟩ = some ev2) (he2 : ev2 = .nilIface ∨ ∃ te pe, ev2 = .iface te pe) :
    Calls Tryd.prog 17 #[.string s] w fun e w' => e = .returned (riV s.data.toList) ∧ Below w.heap.size w w' := by
  have hl : s.size = s.data.toList.length := by rw [Array.length_toList]; rfl
  have ht : s.data.toList.take (min (s.size : Int) 21).toNat = s.data.toList.take 21 := by
    by_cases h : s.size ≤ 21
    · rw [show (min (s.size : Int) 21).toNat = s.size by omega, hl, List.take_length, List.take_of_length_le (by omega)]
    · rw [show (min (s.size : Int) 21).toNat = 21 by omega]
  obtain ⟨c1, c2⟩ := cut_semi (s.data.toList.take 21)
  by_cases h59 : (59 : UInt8) ∈ s.data.toList.take 21
  · obtain ⟨r, hr⟩ := cut_at h59
    have hx := c2 h59
    have hri : rI s.data.toList = match Lib.atoiAll ((s.data.toList.take 21).takeWhile fun c => decide (c ≠ 59)) with
      | .ok n => if Lib.itoa n = (s.data.toList.take 21).takeWhile (fun c => decide (c ≠ 59)) then some (n, s.data.toList.drop ((Lib.itoa n).length + 1)) else none
      | _ => none := by
      first
        | (rw [rI, if_pos h59]; done)
        | (rw [rI, if_pos h59]; cases Lib.atoiAll ((s.data.toList.take 21).takeWhile fun c => decide (c ≠ 59)) <;> rfl)
    generalize ((s.data.toList.take 21).takeWhile fun c => decide (c ≠ 59)) = x at hr hx hri
    have hlen := congrArg List.length hr
    rw [List.length_take, List.length_append, List.length_cons] at hlen
    have hc : Lib.cut (s.data.toList.take (min (s.size : Int) 21).toNat) [59] = (x, (Lib.cut (s.data.toList.take 21) [59]).2.1, true) := by
      rw [ht]
      refine Prod.ext hx (Prod.ext rfl ?_)
      show _ = true
      rw [c1]; simpa using h59
    cases ha : Lib.atoiAll x with
    | ok v =>
      obtain ⟨b0, b1⟩ := atoi_in ha
      refine (ri_yes s m w hm x _ hc (by omega) (by omega) v ha b0 b1 htab).mono ?_
      rintro e w' ⟨rfl, hb⟩
      refine ⟨?_, hb⟩
      rw [riV, hri, ha]
      by_cases hi : Lib.itoa v = x
      · simp only [hi, if_true]
      · simp only [hi, if_false]
    | _ =>
      refine (ri_bad s m w hm x _ hc (by omega) (by intro v; rw [ha]; intro e; cases e) ev1 ev2 h1 he1 h2 he2).mono ?_
      rintro e w' ⟨rfl, hb⟩
      exact ⟨by rw [riV, hri, ha], hb⟩
  · have hc : Lib.cut (s.data.toList.take (min (s.size : Int) 21).toNat) [59] = ((Lib.cut (s.data.toList.take 21) [59]).1, (Lib.cut (s.data.toList.take 21) [59]).2.1, false) := by
      rw [ht]
      refine Prod.ext rfl (Prod.ext rfl ?_)
      show _ = false
      rw [c1]; simpa using h59
    refine (ri_none s m w hm _ _ hc).mono ?_
    rintro e w' ⟨rfl, n, rfl⟩
    exact ⟨by rw [riV, rI, if_neg h59], ⟨rfl, rfl, rfl, Nat.le_refl _, fun _ _ => rfl⟩⟩
end Go.Proofs


set_option maxRecDepth 100000
set_option maxHeartbeats 2000000
namespace Go.Proofs
open Go.Shelf Go.RowKit Go.Lib
theorem Tryd.bx169 : Builder.Extra Tryd.prog Tryd.laysString_ren where
  sizeBuilder := by kernel_rfl
  liesBuilder := by kernel_rfl
  t5 := Tryd.underlying5
  a5 := Tryd.isAgg5
  z5 := Tryd.sizeOf5
  v5 := Tryd.zeroValue5
  infoByte := by kernel_rfl
  cellsByte := by kernel_rfl
  sizeByte := by kernel_rfl
  neB5 := by decide
theorem cc_used (b : Nat) (w : World) (h0 : w.cell? ⟨b, 0, none⟩ = some (.pointer (some ⟨b, 0, none⟩))) :
    Calls Tryd.prog 42 #[.pointer (some ⟨b, 0, none⟩)] w fun e w' => e = .returned (.tuple #[]) ∧ w' = w := by
  obtain ⟨j, hj, _⟩ := Option.map_eq_some_iff.1 Tryd.bx169.sizeBuilder
  go_enter Tryd.func42, Tryd.ntmps42
  go_wp2
  rw [Lib.run_neq_ptr_same w _ Tryd.underlying53 hj]
  go_wp2
  go_end0
  exact ⟨rfl, rfl⟩
theorem cc_fresh (b : Nat) (w : World) (h0 : w.cell? ⟨b, 0, none⟩ = some (.pointer none)) (hsh : w.shape? b = some (56, 2)) (hfz : w.frozen? ⟨b, 0, none⟩ = false) :
    Calls Tryd.prog 42 #[.pointer (some ⟨b, 0, none⟩)] w fun e w' => e = .returned (.tuple #[]) ∧ w' = w.setCell ⟨b, 0, none⟩ (.pointer (some ⟨b, 0, none⟩)) := by
  obtain ⟨j, hj, hjs⟩ := Option.map_eq_some_iff.1 Tryd.bx169.sizeBuilder
  go_enter Tryd.func42, Tryd.ntmps42
  go_wp2
  rw [Lib.run_to_unsafe w ⟨b, 0, none⟩ Tryd.underlying53 Tryd.underlying74 hj (by rw [hjs]; decide) hsh (Nat.zero_lt_succ 1)]
  simp only [Result.andThen]
  rw [Oper.upon_value]
  go_wp2
  rw [run_callFunc_extern Tryd.func53 (by kernel_rfl) (by kernel_rfl) (by kernel_rfl) (e := Extern.AbiNoEscape.same) (by kernel_rfl)]
  rw [Lib.run_noEscape]
  simp only [Result.andThen]
  rw [Oper.upon_value]
  go_wp2
  rw [Lib.run_from_unsafe w ⟨b, 0, none⟩ Tryd.underlying74 Tryd.underlying53 hj hsh Tryd.bx169.liesBuilder]
  simp only [Result.andThen]
  rw [Oper.upon_value]
  go_wp2
  go_end0
  exact ⟨rfl, rfl⟩
theorem cc_any (B b : Nat) (bs : List Value) (w : World) (h : Lib.IsBuilderF 56 5 B b bs w) :
    Calls Tryd.prog 42 #[.pointer (some ⟨b, 0, none⟩)] w fun e w' => e = .returned (.tuple #[]) ∧ Lib.BuilderAtF 56 5 B b (.pointer (some ⟨b, 0, none⟩)) bs w' ∧ Below B w w' := by
  rcases h with h | h
  · refine (cc_fresh b w h.cell0 h.shape h.frozen0).mono ?_
    rintro e w' ⟨rfl, rfl⟩
    exact ⟨rfl, h.used _, (Below.refl B w).setCell (p := ⟨b, 0, none⟩) h.1 _⟩
  · refine (cc_used b w h.cell0).mono ?_
    rintro e w' ⟨rfl, rfl⟩
    exact ⟨rfl, h, Below.refl B _⟩
theorem b_write (B b : Nat) (bs : List Value) (s : ByteArray) (w : World) (h : Lib.IsBuilderF 56 5 B b bs w) (hlen : bs.length + s.size ≤ 140737488355328) (hBw : B ≤ w.heap.size) :
    Calls Tryd.prog 36 #[.pointer (some ⟨b, 0, none⟩), .string s] w fun e w' => e = .returned (.tuple #[.int .i64 s.size, .nilIface]) ∧ Lib.IsBuilderF 56 5 B b (bs ++ Lib.strCells s) w' ∧ Below B w w' := by
  obtain ⟨i0, hi, hz0, hz1, hz2⟩ := info_parts Tryd.bx169.infoByte
  go_enter Tryd.func36, Tryd.ntmps36
  go_wp2_with (go_at_call 42; refine (cc_any B b bs _ h).mono ?_)
  rintro e w1 ⟨rfl, h1, hb1⟩
  obtain ⟨hB, v, hbk, hown, hne⟩ := h1
  have c0 : w1.cell? ⟨b, 0, none⟩ = some (.pointer (some ⟨b, 0, none⟩)) := by rw [Lib.cell_of_heap hbk]; rfl
  have c1 : w1.cell? ⟨b, 1, none⟩ = some v := by rw [Lib.cell_of_heap hbk]; rfl
  go_wp2_with (at_builtin; refine Lib.wpList_append_own_stringF _ rfl _ _ 54 9 rfl B 5 i0 Tryd.underlying54 Tryd.underlying9 hi hz0 hz1 hz2 _ _ _ rfl hown s rfl ?c3 ?c4 ?c5 ?_)
  case c3 => unfold maxLen; omega
  case c4 => omega
  case c5 => have := hb1.size; omega
  intro v' w2 hown' hgrow _
  have hlt : b < w1.heap.size := by
    rcases Nat.lt_or_ge b w1.heap.size with h' | h'
    · exact h'
    · simp [Array.getElem?_eq_none h'] at hbk
  have hb2 : w2.heap[b]? = some (.cells #[.pointer (some ⟨b, 0, none⟩), v] 56 (0, 0)) := by
    rw [hgrow.block b hlt (fun e => hne e.symm)]
    exact hbk
  have d0 : w2.cell? ⟨b, 0, none⟩ = some (.pointer (some ⟨b, 0, none⟩)) := by rw [Lib.cell_of_heap hb2]; rfl
  have d1 : w2.cell? ⟨b, 1, none⟩ = some v := by rw [Lib.cell_of_heap hb2]; rfl
  have f1 : w2.frozen? ⟨b, 1, none⟩ = false := Lib.frozen_of_heap hb2 1
  obtain ⟨ao, n', cap, rfl⟩ : ∃ ao n' cap, v' = .slice ao n' cap := by
    rcases hown'.2 with ⟨hv, _⟩ | ⟨g, cap, cur, fz, hv, _⟩
    · exact ⟨_, _, _, hv⟩
    · exact ⟨_, _, _, hv⟩
  go_wp2
  go_ret2
  refine ⟨rfl, .inr ?_, ?_⟩
  · exact Lib.BuilderAtF.put (T := 56) (e := 5) hB hb2 (bs' := bs ++ Lib.strCells s) (by simpa [Lib.strCells_length] using hown') (by decide)
  · exact (hb1.grown hgrow (by have := hb1.size; omega) (fun k hk => (hown.lt k hk).1)).setCell (p := ⟨b, 1, none⟩) hB _
theorem b_string (B b : Nat) (l : List UInt8) (w : World) (h : Lib.IsBuilderF 56 5 B b (Lib.byteCells l) w) (hBw : B ≤ w.heap.size) :
    Calls Tryd.prog 37 #[.pointer (some ⟨b, 0, none⟩)] w fun e w' => e = .returned (.string ⟨l.toArray⟩) ∧ Below B w w' :=
  (Any.Builder_String_any_k Tryd.laysString Tryd.bx169 B b l w h hBw).mono fun _ _ h => ⟨h.1, h.2.2.1⟩
theorem b_below {T e : TypeId} {B b : Nat} {bs : List Value} {W W' : World} (h : Lib.IsBuilderF T e B b bs W) (hb : Below W.heap.size W W') : Lib.IsBuilderF T e B b bs W' := by
  have key : ∀ p, Lib.BuilderAtF T e B b p bs W → Lib.BuilderAtF T e B b p bs W' := by
    intro p h
    have hlt := h.lt
    obtain ⟨h1, v, h2, h3, h4⟩ := h
    refine ⟨h1, v, (hb.block b hlt).trans h2, ?_, h4⟩
    exact h3.kept (row := none) ⟨hb.os, hb.tape, hb.output, hb.size, fun k hk _ => hb.block k hk⟩ (Classical.em _)
  exact h.elim (fun h => .inl (key _ h)) (fun h => .inr (key _ h))
def outN (e0 : List UInt8) (enc : Nat → List UInt8) : Nat → List UInt8
  | 0 => e0
  | k + 1 => outN e0 enc k ++ enc k
theorem outN_le (e0 : List UInt8) (enc : Nat → List UInt8) : ∀ {k n : Nat}, k ≤ n → (outN e0 enc k).length ≤ (outN e0 enc n).length
  | k, 0, h => by
    obtain rfl : k = 0 := by omega
    exact Nat.le_refl _
  | k, n + 1, h => by
    by_cases hk : k = n + 1
    · rw [hk]; exact Nat.le_refl _
    · have := outN_le e0 enc (k := k) (n := n) (by omega)
      rw [outN, List.length_append]; omega
def OneOf (f : FuncId) (vals : Nat → Value) (enc : Nat → List UInt8) (n : Nat) (w : World) : Prop :=
  ∀ (k : Nat) (W : World), k < n → Below w.heap.size w W → Calls Tryd.prog f #[vals k] W fun e W' => e = .returned (.string ⟨(enc k).toArray⟩) ∧ Below W.heap.size W W'
theorem write_int (p : Option Addr) (n cap : Nat) (vals : Nat → Value) (enc : Nat → List UInt8) (e0 : List UInt8) (w : World)
    (hp : ∀ k, k < n → ∃ b o, p = some ⟨b, o, none⟩ ∧ b < w.heap.size ∧ w.cell? ⟨b, o + k, none⟩ = some (vals k))
    (hone : OneOf 9 vals enc n w) (h9 : ∀ W, Below w.heap.size w W → Calls Tryd.prog 9 #[.int .i64 n] W fun e W' => e = .returned (.string ⟨e0.toArray⟩) ∧ Below W.heap.size W W')
    (hlen : (outN e0 enc n).length ≤ 140737488355328) (hn : n ≤ 1000000000) :
    Calls Tryd.prog 28 #[.slice p n cap, .func (.func 9) #[] #[]] w fun e w' => e = .returned (.string ⟨(outN e0 enc n).toArray⟩) ∧ Below w.heap.size w w' := by
  have hI0 := (Lib.IsBuilderF.of (Lib.fresh_isBuilder 56 5 w))
  have hb0 : Below w.heap.size w (w.alloc (.cells #[.pointer none, .slice none 0 0] 56)) := (Below.refl _ w).alloc (Nat.le_refl _) _
  go_enter Tryd.func28, Tryd.ntmps28
  go_wp2_with (go_at_call 9; refine (h9 _ hb0).mono ?_)
  rintro e w1 ⟨rfl, hb1⟩
  have hI1 := b_below hI0 hb1
  have hb2 := hb0.trans (hb1.mono hb0.size)
  have hle : e0.length ≤ 140737488355328 := Nat.le_trans (outN_le e0 enc (Nat.zero_le n)) hlen
  go_wp2_with (go_at_call 36; refine (b_write w.heap.size w.heap.size [] ⟨e0.toArray⟩ _ hI1 ?_ ?_).mono ?_)
  · show 0 + e0.toArray.size ≤ _
    simp; omega
  · exact hb2.size
  rintro e w2 ⟨rfl, hI2, hb3⟩
  have hb4 := hb2.trans hb3
  have hI3 : Lib.IsBuilderF 56 5 w.heap.size w.heap.size (Lib.byteCells e0) w2 := by
    have e : ([] : List Value) ++ Lib.strCells ⟨e0.toArray⟩ = Lib.byteCells e0 := rfl
    rw [e] at hI2; exact hI2
  clear hI2
  go_wp2
  go_loopw [14] (fun i wr => ∃ k : Nat, k ≤ n ∧ i = .int .i64 k ∧ Lib.IsBuilderF 56 5 w.heap.size w.heap.size (Lib.byteCells (outN e0 enc k)) wr ∧ Below w.heap.size w wr) (fun i _ => n - (Go.RowKit.intOf i).toNat)
  case atStart => exact ⟨0, Nat.zero_le _, rfl, hI3, hb4⟩
  case round =>
    obtain ⟨k, hk, rfl, hI, hb⟩ := hrel
    by_cases hlt : k < n
    · obtain ⟨b, o, rfl, hbl, hc⟩ := hp k hlt
      have hc' : wr.cell? ⟨b, o + k, none⟩ = some (vals k) := (hb.cell (p := ⟨b, o + k, none⟩) hbl).trans hc
      have h1 := hone k wr hlt hb
      have hkn : (k : Int) < n := by omega
      have hwr : IntKind.i64.wrap ((k : Int) + 1) = ((k + 1 : Nat) : Int) := by unfold IntKind.wrap; simp [IntKind.signed, IntKind.bits]; omega
      go_wp2_with (go_at_call 9; refine h1.mono ?_)
      rintro e w3 ⟨rfl, hb5⟩
      have hI5 := b_below hI hb5
      have hb6 := hb.trans (hb5.mono hb.size)
      have hsz : (outN e0 enc k).length + (enc k).length ≤ 140737488355328 := by
        have := outN_le e0 enc (k := k + 1) (n := n) (by omega)
        rw [outN, List.length_append] at this
        omega
      go_wp2_with (go_at_call 36; refine (b_write w.heap.size w.heap.size _ ⟨(enc k).toArray⟩ _ hI5 ?_ ?_).mono ?_)
      · rw [Lib.byteCells_length]
        show _ + (enc k).toArray.size ≤ _
        simpa using hsz
      · exact hb6.size
      rintro e w4 ⟨rfl, hI6, hb7⟩
      have hb8 := hb6.trans hb7
      go_wp2
      go_roundw
      case rel =>
        refine ⟨k + 1, by omega, by go_num, ?_, hb8⟩
        rw [outN, Lib.byteCells_append]
        exact hI6
      case measure => simp [Go.RowKit.intOf]; omega
    · obtain rfl : k = n := by omega
      go_wp2_with (go_at_call 37; refine (b_string w.heap.size w.heap.size (outN e0 enc k) wr hI hb.size).mono ?_; rintro e w5 ⟨rfl, hb9⟩)
      go_wp2
      go_ret
      exact ⟨rfl, hb.trans hb9⟩
theorem write_str (p : Option Addr) (n cap : Nat) (vals : Nat → Value) (enc : Nat → List UInt8) (e0 : List UInt8) (w : World)
    (hp : ∀ k, k < n → ∃ b o, p = some ⟨b, o, none⟩ ∧ b < w.heap.size ∧ w.cell? ⟨b, o + k, none⟩ = some (vals k))
    (hone : OneOf 11 vals enc n w) (h9 : ∀ W, Below w.heap.size w W → Calls Tryd.prog 9 #[.int .i64 n] W fun e W' => e = .returned (.string ⟨e0.toArray⟩) ∧ Below W.heap.size W W')
    (hlen : (outN e0 enc n).length ≤ 140737488355328) (hn : n ≤ 1000000000) :
    Calls Tryd.prog 29 #[.slice p n cap, .func (.func 11) #[] #[]] w fun e w' => e = .returned (.string ⟨(outN e0 enc n).toArray⟩) ∧ Below w.heap.size w w' := by
  have hI0 := (Lib.IsBuilderF.of (Lib.fresh_isBuilder 56 5 w))
  have hb0 : Below w.heap.size w (w.alloc (.cells #[.pointer none, .slice none 0 0] 56)) := (Below.refl _ w).alloc (Nat.le_refl _) _
  go_enter Tryd.func29, Tryd.ntmps29
  go_wp2_with (go_at_call 9; refine (h9 _ hb0).mono ?_)
  rintro e w1 ⟨rfl, hb1⟩
  have hI1 := b_below hI0 hb1
  have hb2 := hb0.trans (hb1.mono hb0.size)
  have hle : e0.length ≤ 140737488355328 := Nat.le_trans (outN_le e0 enc (Nat.zero_le n)) hlen
  go_wp2_with (go_at_call 36; refine (b_write w.heap.size w.heap.size [] ⟨e0.toArray⟩ _ hI1 ?_ ?_).mono ?_)
  · show 0 + e0.toArray.size ≤ _
    simp; omega
  · exact hb2.size
  rintro e w2 ⟨rfl, hI2, hb3⟩
  have hb4 := hb2.trans hb3
  have hI3 : Lib.IsBuilderF 56 5 w.heap.size w.heap.size (Lib.byteCells e0) w2 := by
    have e : ([] : List Value) ++ Lib.strCells ⟨e0.toArray⟩ = Lib.byteCells e0 := rfl
    rw [e] at hI2; exact hI2
  clear hI2
  go_wp2
  go_loopw [14] (fun i wr => ∃ k : Nat, k ≤ n ∧ i = .int .i64 k ∧ Lib.IsBuilderF 56 5 w.heap.size w.heap.size (Lib.byteCells (outN e0 enc k)) wr ∧ Below w.heap.size w wr) (fun i _ => n - (Go.RowKit.intOf i).toNat)
  case atStart => exact ⟨0, Nat.zero_le _, rfl, hI3, hb4⟩
  case round =>
    obtain ⟨k, hk, rfl, hI, hb⟩ := hrel
    by_cases hlt : k < n
    · obtain ⟨b, o, rfl, hbl, hc⟩ := hp k hlt
      have hc' : wr.cell? ⟨b, o + k, none⟩ = some (vals k) := (hb.cell (p := ⟨b, o + k, none⟩) hbl).trans hc
      have h1 := hone k wr hlt hb
      have hkn : (k : Int) < n := by omega
      have hwr : IntKind.i64.wrap ((k : Int) + 1) = ((k + 1 : Nat) : Int) := by unfold IntKind.wrap; simp [IntKind.signed, IntKind.bits]; omega
      go_wp2_with (go_at_call 11; refine h1.mono ?_)
      rintro e w3 ⟨rfl, hb5⟩
      have hI5 := b_below hI hb5
      have hb6 := hb.trans (hb5.mono hb.size)
      have hsz : (outN e0 enc k).length + (enc k).length ≤ 140737488355328 := by
        have := outN_le e0 enc (k := k + 1) (n := n) (by omega)
        rw [outN, List.length_append] at this
        omega
      go_wp2_with (go_at_call 36; refine (b_write w.heap.size w.heap.size _ ⟨(enc k).toArray⟩ _ hI5 ?_ ?_).mono ?_)
      · rw [Lib.byteCells_length]
        show _ + (enc k).toArray.size ≤ _
        simpa using hsz
      · exact hb6.size
      rintro e w4 ⟨rfl, hI6, hb7⟩
      have hb8 := hb6.trans hb7
      go_wp2
      go_roundw
      case rel =>
        refine ⟨k + 1, by omega, by go_num, ?_, hb8⟩
        rw [outN, Lib.byteCells_append]
        exact hI6
      case measure => simp [Go.RowKit.intOf]; omega
    · obtain rfl : k = n := by omega
      go_wp2_with (go_at_call 37; refine (b_string w.heap.size w.heap.size (outN e0 enc k) wr hI hb.size).mono ?_; rintro e w5 ⟨rfl, hb9⟩)
      go_wp2
      go_ret
      exact ⟨rfl, hb.trans hb9⟩
end Go.Proofs


set_option maxRecDepth 100000
set_option maxHeartbeats 4000000
namespace Go.Abs
open Go.Proofs Go.Wire Go.RowKit
theorem callable_at {P : Program} {f : FuncId} (h : (match P.funcs[f]? with | some fn => fn.body.isSome && !(fn.name == "runtime.NumGoroutine") | none => false) = true) : Callable P f := by
  unfold Callable
  cases hf : P.funcs[f]? with
  | none => rw [hf] at h; simp at h
  | some fn => rw [hf] at h; simp only [Bool.and_eq_true, Bool.not_eq_true'] at h; exact ⟨fn, rfl, h.1, h.2⟩
theorem kept_of_below {w w' : World} (h : Below w.heap.size w w') : Kept w w' := ⟨h.os, h.tape, h.output, h.size, h.block⟩
theorem below_of_kept {w w' : World} (h : Kept w w') : Below w.heap.size w w' := ⟨h.os, h.tape, h.output, h.size, h.block⟩
theorem tab_of {w : World} (hG : GlobB (base w)) : Go.Lib.TabIs Tryd.prog w "internal/strconv.uint64pow10" .u64 Go.Lib.pow10Tab := by
  obtain ⟨_, b, hb, hp⟩ := hG.2 3 _ rfl
  have hn : Tryd.prog.globalNamed "internal/strconv.uint64pow10" = some 3 := by kernel_rfl
  unfold Go.Lib.TabIs World.var?
  rw [hn, Option.bind_some]
  have hb' : w.heap[3]? = some b := hb
  rw [hb']
  cases b with
  | cells cs t f =>
    have e : cs = _ := hp
    simp only [e]
    rfl
  | _ => exact hp.elim
theorem cell_of {w : World} {g : Nat} {p : Value → Prop} (hG : GlobB (base w)) (h : globObj g = some (cell0 p)) : ∃ v, w.cell? ⟨g, 0, none⟩ = some v ∧ p v := by
  obtain ⟨_, b, hb, hp⟩ := hG.2 g _ h
  have hb' : w.heap[g]? = some b := hb
  cases b with
  | cells cs t f =>
    obtain ⟨v, h1, h2⟩ := hp
    exact ⟨v, by simp only [World.cell?, hb']; exact h1, h2⟩
  | _ => exact hp.elim
theorem w27 (n : Int) (h : inI n) : Spec Tryd.prog 27 [.int .i64 n] (fun r => r = .str (Go.Lib.itoa n)) :=
  itoa_spec Tryd.laysItoa (callable_at (by kernel_rfl)) (fun w hG => tab_of hG) n h.1 h.2
theorem riV_rep (s : Txt) (w : World) (Z : Bk → Prop) : VRep w Z (fun _ => none) (fun _ => none) (resI (rI s)) (riV s) := by
  unfold riV resI
  cases rI s with
  | none => exact ⟨_, rfl, rfl, ⟨rfl, .int _ _⟩, ⟨rfl, .str _⟩, ⟨rfl, .bool _⟩, trivial⟩
  | some p => exact ⟨_, rfl, rfl, ⟨rfl, .int _ _⟩, ⟨rfl, .str _⟩, ⟨rfl, .bool _⟩, trivial⟩
theorem resI_plain (r : Option (Int × Txt)) : (∀ n, (resI r).reg n = (resI r, [])) ∧ ∀ τ, (resI r).noRef τ = true := by
  unfold resI
  split <;> exact ⟨fun _ => rfl, fun _ => rfl⟩
theorem w17 (s : Txt) : Spec Tryd.prog 17 [.str s] (fun r => r = resI (rI s)) := by
  refine ⟨callable_at (by kernel_rfl), fun w Z vs hG hz ha => ?_⟩
  obtain ⟨l⟩ := vs
  match l, ha with
  | [], ha => exact absurd ha.1 (by simp)
  | _ :: _ :: _, ha => exact absurd ha.1 (by simp)
  | [v1], ha =>
    have e1 := prep_str (ha.2 0 _ v1 rfl rfl).2.2
    subst e1
    obtain ⟨_, h0, m, rfl⟩ := cell_of hG (g := 0) rfl
    obtain ⟨ev1, h1, he1⟩ := cell_of hG (g := 1) rfl
    obtain ⟨ev2, h2, he2⟩ := cell_of hG (g := 2) rfl
    refine (readInt ⟨s.toArray⟩ m w h0 (fun w' hb => tab_of (hG.later (kept_of_below hb))) ev1 ev2 h1 he1 h2 he2).mono ?_
    rintro e w' ⟨rfl, hb⟩
    have he : (⟨s.toArray⟩ : ByteArray).data.toList = s := rfl
    rw [he]
    exact ⟨_, _, rfl, rfl, (resI_plain _).2, rrep_pure hG (kept_of_below hb) (resI_plain _).1 (fun Z => riV_rep s _ Z)⟩
theorem Spec.call_str {f : FuncId} {x : V} {v : Value} {t : Txt} (h : Spec Tryd.prog f [x] (fun r => r = .str t)) {W : World} (hG : GlobB (base W)) (hx : x.isPure = true) (hv : VRep W (fun b => b.2 < W.heap.size) (fun _ => none) (fun _ => none) x v) :
    Calls Tryd.prog f #[v] W fun e W' => e = .returned (.string ⟨t.toArray⟩) ∧ Below W.heap.size W W' := by
  refine (h.2 W (fun b => b.2 < W.heap.size) #[v] hG (fun _ h => h) ⟨rfl, fun j y u hy hu => ?_⟩).mono ?_
  · cases j with
    | zero => simp at hy hu; subst hy; subst hu; exact ⟨hx, hv⟩
    | succ j => simp at hy
  · rintro e w' ⟨v, r, rfl, rfl, _, hrep⟩
    obtain ⟨κ, hi⟩ := hrep 0
    refine ⟨?_, below_of_kept hi.kept⟩
    have := hi.tmps 0
    simp only [if_pos, V.reg] at this
    have e3 : (#[v] : Array Value).getD 0 undef = v := rfl
    rw [e3] at this
    rw [prep_str this.2]
theorem slice1 {w : World} {Z : Bk → Prop} {rows : List (List C)} {v : Value} (h : PRep w Z (lstC 1 rows) v) :
    ∃ p cap, v = .slice p rows.length cap ∧ ∀ k, k < rows.length → ∃ b o, p = some ⟨b, o, none⟩ ∧ Z (1, b) ∧ ∀ c, rows[k]? = some [c] → ∃ u, w.cell? ⟨b, o + k, none⟩ = some u ∧ PRep w Z c u := by
  unfold lstC at h
  by_cases h0 : rows = []
  · subst h0
    have h' : PRep w Z (.list 0 none []) v := h
    generalize hc : C.list 0 none [] = c at h'
    cases h' with
    | nil => exact ⟨none, 0, rfl, fun k hk => absurd hk (by simp)⟩
    | emp _ _ a => exact ⟨some a, 0, rfl, fun k hk => absurd hk (by simp)⟩
    | list b o cap sz nl rws val =>
      injection hc with _ _ hr
      subst hr
      exact ⟨some ⟨b, o, none⟩, cap, rfl, fun k hk => absurd hk (by simp)⟩
    | _ => cases hc
  · have e : (if rows.isEmpty = true then 0 else 1) = 1 := by cases rows <;> simp_all
    rw [e] at h
    generalize hc : C.list 1 none rows = c at h
    cases h with
    | nil => injection hc with _ _ hr; exact absurd hr h0
    | emp => injection hc with _ _ hr; exact absurd hr h0
    | list b o cap sz nl rws val h1 h2 h3 h4 h5 h6 h7 =>
      injection hc with hs _ hr
      subst hs hr
      refine ⟨some ⟨b, o, none⟩, cap, rfl, fun k hk => ⟨b, o, rfl, h4 h0, fun c hkc => ?_⟩⟩
      have g1 := h6 k 0 [c] c hkc rfl
      have g2 := h7 k 0 [c] c hkc rfl
      rw [Nat.mul_one, Nat.add_zero] at g1
      exact ⟨_, g1, g2⟩
    | _ => cases hc
theorem outN_w {α : Type} (w : α → Txt) (d : α) (l : List α) (e0 : Txt) : ∀ k, k ≤ l.length → outN e0 (fun i => w (l.getD i d)) k = e0 ++ wN w (l.take k)
  | 0, _ => by simp [outN, wN]
  | k + 1, h => by
    have hk : k < l.length := by omega
    rw [outN, outN_w w d l e0 k (by omega), wN_snoc w l hk, List.append_assoc]
    simp [hk]
theorem w9 (n : Int) (h : inI n) : Spec Tryd.prog 9 [.int .i64 n] (fun r => r = .str (wI n)) := by
  refine Spec.of_awlS hf9 okf9 (by simp) fun S hS => ?_
  simp only [Qs, Nat.reduceBEq, uu f9.eq_1, id @f9r1.eq_1, uu f9b2.eq_1, id @f9r3.eq_1, uu f9b4.eq_1]
  refine call_s (w27 n h) ?_
  simp only [Qs, List.nodup_nil, Nat.reduceLeDiff]
  exact ⟨by have := itoa_len h; omega, hS⟩
theorem w11 (s : Txt) (hs : s.length ≤ 1000000000000) : Spec Tryd.prog 11 [.str s] (fun r => r = .str (wS s)) := by
  have h0 : inI (s.length : Int) := ⟨by omega, by omega⟩
  have h1 := wI_le h0
  refine Spec.of_awlS hf11 okf11 (by simp) fun S hS => ?_
  simp only [Qs, Nat.reduceBEq, uu f11.eq_1, id @f11r1.eq_1, uu f11b2.eq_1, id @f11r3.eq_1, uu f11b4.eq_1]
  refine call_s (w9 s.length h0) ?_
  have c : (wI s.length).length + s.length ≤ 9223372036854775807 := by omega
  simp only [c, Qs, List.nodup_nil, Nat.reduceBEq]
  exact hS
theorem arg2 {w : World} {Z : Bk → Prop} {a b : V} {vs : Array Value} (ha : ARep w Z [a, b] vs.toList) : ∃ v1 v2, vs = #[v1, v2] ∧ VRep w Z (fun _ => none) (fun _ => none) a v1 ∧ VRep w Z (fun _ => none) (fun _ => none) b v2 := by
  obtain ⟨l⟩ := vs
  match l, ha with
  | [], ha => exact absurd ha.1 (by simp)
  | [_], ha => exact absurd ha.1 (by simp)
  | _ :: _ :: _ :: _, ha => exact absurd ha.1 (by simp)
  | [v1, v2], ha => exact ⟨v1, v2, rfl, (ha.2 0 _ v1 rfl rfl).2, (ha.2 1 _ v2 rfl rfl).2⟩
theorem prep_fn0 {w : World} {Z : Bk → Prop} {f : FuncId} {v : Value} (h : PRep w Z (.fn f []) v) : v = .func (.func f) #[] #[] := by
  generalize hc : C.fn f [] = c at h
  cases h with
  | fn g caps vs val h1 =>
    injection hc with e1 e2
    subst e1 e2
    have : vs = #[] := Array.eq_empty_of_size_eq_zero h1
    rw [this]
  | _ => cases hc
theorem w28 (l : List Int) (h : okIs l) : Spec Tryd.prog 28 [lst 1 (ints l), .k (.c (.fn 9 []))] (fun r => r = .str (wL wI l)) := by
  obtain ⟨hl, hi⟩ := h
  have h0 : inI (l.length : Int) := ⟨by omega, by omega⟩
  refine ⟨callable_at (by kernel_rfl), fun w Z vs hG hz ha => ?_⟩
  obtain ⟨v1, v2, rfl, g1, g2⟩ := arg2 ha
  obtain rfl := prep_fn0 g2.2
  obtain ⟨p, cap, rfl, hp⟩ := slice1 g1.2
  have hout := outN_w wI 0 l (wI l.length) l.length (Nat.le_refl _)
  rw [List.take_length] at hout
  have hwl : wL wI l = wI l.length ++ wN wI l := rfl
  have hle : (outN (wI l.length) (fun i => wI (l.getD i 0)) l.length).length ≤ 140737488355328 := by
    rw [hout, List.length_append]
    have := wN_leI hi
    have := wI_le h0
    omega
  rw [ints_len] at hp ⊢
  refine (write_int p l.length cap (fun k => .int .i64 (l.getD k 0)) (fun k => wI (l.getD k 0)) (wI l.length) w (fun k hk => ?_) (fun k W hk hb => ?_) (fun W hb => ?_) hle (by omega)).mono ?_
  · obtain ⟨b, o, e, hZ, hc⟩ := hp k hk
    obtain ⟨u, hu, hr⟩ := hc (.int .i64 (l.getD k 0)) (by simp [ints, hk])
    refine ⟨b, o, e, hz _ hZ, ?_⟩
    rw [hu, prep_int hr]
  · have hm : inI (l.getD k 0) := by simp [hk]; exact hi _ (List.getElem_mem hk)
    exact (w9 _ hm).call_str (hG.later (kept_of_below hb)) rfl ⟨rfl, .int _ _⟩
  · exact (w9 _ h0).call_str (hG.later (kept_of_below hb)) rfl ⟨rfl, .int _ _⟩
  · rintro e w' ⟨rfl, hb⟩
    rw [hout, ← hwl]
    exact ⟨_, _, rfl, rfl, fun _ => rfl, rrep_pure hG (kept_of_below hb) (fun _ => rfl) (fun _ => ⟨rfl, .str _⟩)⟩
theorem w29 (l : List Txt) (h : okSs l) : Spec Tryd.prog 29 [lst 1 (strs l), .k (.c (.fn 11 []))] (fun r => r = .str (wL wS l)) := by
  unfold okSs at h
  have hl := bk_len l
  have h0 : inI (l.length : Int) := ⟨by omega, by omega⟩
  refine ⟨callable_at (by kernel_rfl), fun w Z vs hG hz ha => ?_⟩
  obtain ⟨v1, v2, rfl, g1, g2⟩ := arg2 ha
  obtain rfl := prep_fn0 g2.2
  obtain ⟨p, cap, rfl, hp⟩ := slice1 g1.2
  have hout := outN_w wS [] l (wI l.length) l.length (Nat.le_refl _)
  rw [List.take_length] at hout
  have hwl : wL wS l = wI l.length ++ wN wS l := rfl
  have hle : (outN (wI l.length) (fun i => wS (l.getD i [])) l.length).length ≤ 140737488355328 := by
    rw [hout, List.length_append]
    have := wN_leS h
    have := wI_le h0
    omega
  rw [strs_len] at hp ⊢
  refine (write_str p l.length cap (fun k => .string ⟨(l.getD k []).toArray⟩) (fun k => wS (l.getD k [])) (wI l.length) w (fun k hk => ?_) (fun k W hk hb => ?_) (fun W hb => ?_) hle (by omega)).mono ?_
  · obtain ⟨b, o, e, hZ, hc⟩ := hp k hk
    obtain ⟨u, hu, hr⟩ := hc (.str (l.getD k [])) (by simp [strs, encS, hk])
    refine ⟨b, o, e, hz _ hZ, ?_⟩
    rw [hu, prep_str hr]
  · have hm : (l.getD k []).length ≤ 1000000000000 := by
      simp [hk]
      have := bk_mem (List.getElem_mem hk)
      omega
    exact (w11 _ hm).call_str (hG.later (kept_of_below hb)) rfl ⟨rfl, .str _⟩
  · exact (w9 _ h0).call_str (hG.later (kept_of_below hb)) rfl ⟨rfl, .int _ _⟩
  · rintro e w' ⟨rfl, hb⟩
    rw [hout, ← hwl]
    exact ⟨_, _, rfl, rfl, fun _ => rfl, rrep_pure hG (kept_of_below hb) (fun _ => rfl) (fun _ => ⟨rfl, .str _⟩)⟩
theorem w13 (l : List Int) (h : okIs l) : Spec Tryd.prog 13 [lst 1 (ints l)] (fun r => r = .str (wL wI l)) := by
  refine Spec.of_awlS hf13 okf13 (by simp) fun S hS => ?_
  simp only [Qs, Nat.reduceBEq, uu f13.eq_1, id @f13r1.eq_1, uu f13b2.eq_1, id @f13r3.eq_1, uu f13b4.eq_1]
  refine call_s (w28 l h) ?_
  simp only [Qs, List.nodup_nil]
  exact hS
theorem w15 (l : List Txt) (h : okSs l) : Spec Tryd.prog 15 [lst 1 (strs l)] (fun r => r = .str (wL wS l)) := by
  refine Spec.of_awlS hf15 okf15 (by simp) fun S hS => ?_
  simp only [Qs, Nat.reduceBEq, uu f15.eq_1, id @f15r1.eq_1, uu f15b2.eq_1, id @f15r3.eq_1, uu f15b4.eq_1]
  refine call_s (w29 l h) ?_
  simp only [Qs, List.nodup_nil]
  exact hS
end Go.Abs


set_option maxRecDepth 100000
set_option maxHeartbeats 4000000
namespace Go.Abs
open Go.Proofs Go.Wire
theorem w19 (s : Txt) (hs : s.length ≤ 1000000000000) : Spec Tryd.prog 19 [.str s] (fun r => r = resS (rS s)) := by
  refine Spec.of_awlS hf19 okf19 (by simp) fun S hS => ?_
  unfold rS at hS
  simp only [Qs, Nat.reduceBEq, uu f19.eq_1, id @f19r9.eq_1, uu f19b10.eq_1, id @f19r11.eq_1, uu f19b12.eq_1]
  refine call_s (w17 s) ?_ (hr := resI_scalar _)
  cases h : rI s with
  | none =>
    rw [h] at hS
    simp only [resI, Qs, List.append_nil, List.nodup_nil, Nat.reduceBEq, id @f19r3.eq_1, uu f19b4.eq_1, uu f19b5.eq_1, id @f19r6.eq_1, uu f19b7.eq_1, uu f19b8.eq_1]
    exact hS
  | some p =>
    obtain ⟨n, r⟩ := p
    have hr := rI_len h
    rw [h] at hS
    simp only [Option.bind_some] at hS
    by_cases hn : n < 0
    · rw [if_pos (.inl hn)] at hS
      simp only [resI, hn, Qs, if_true, if_false, List.append_nil, List.nodup_nil, Nat.reduceBEq, id @f19r3.eq_1, uu f19b4.eq_1, uu f19b5.eq_1, id @f19r6.eq_1, uu f19b7.eq_1, uu f19b8.eq_1]
      exact hS
    · by_cases hl : n > r.length
      · rw [if_pos (.inr hl)] at hS
        simp only [resI, hn, hl, Qs, if_true, if_false, List.append_nil, List.nodup_nil, Nat.reduceBEq, id @f19r3.eq_1, uu f19b4.eq_1, uu f19b5.eq_1, id @f19r6.eq_1, uu f19b7.eq_1, uu f19b8.eq_1]
        exact hS
      · rw [if_neg (fun h => h.elim hn hl)] at hS
        have b1 : (0 : Int) ≤ n := by omega
        have b2 : n ≤ r.length := by omega
        simp only [resI, hn, hl, b1, b2, Qs, if_true, if_false, List.append_nil, List.nodup_nil, Nat.reduceBEq, Int.reduceLE, id @f19r1.eq_1, uu f19b2.eq_1, uu f19b5.eq_1, id @f19r6.eq_1, uu f19b7.eq_1, uu f19b8.eq_1]
        rw [List.take_length]
        exact ⟨Int.le_refl _, hS⟩
theorem w33 (s : Txt) (hs : s.length ≤ 100000000) : Spec Tryd.prog 33 [.str s, .k (.c (.fn 17 []))] (fun r => r = resLs ints (rL rI s)) := by
  refine Spec.of_awlP hf33 okf33 (by simp) fun S hS => ?_
  unfold rL at hS
  simp only [Qs, Nat.reduceAdd, Nat.reduceBEq, uu f33.eq_1, id @f33r32.eq_1, uu f33b33.eq_1, id @f33r34.eq_1, uu f33b35.eq_1]
  refine call_s (w17 s) ?_ (hr := resI_scalar _)
  cases h : rI s with
  | none =>
    rw [h] at hS
    simp only [resI, Qs, if_true, BEq.rfl, List.append_nil, List.nodup_nil, List.nodup_cons, Nat.reduceBEq, List.not_mem_nil, id @f33r26.eq_1, uu f33b27.eq_1, uu f33b28.eq_1, id @f33r29.eq_1, uu f33b30.eq_1, uu f33b31.eq_1]
    exact fin_L hS rfl
  | some p =>
    obtain ⟨n, r⟩ := p
    have hr := rI_len h
    rw [h] at hS
    simp only [Option.bind_some] at hS
    by_cases hn : n < 0
    · rw [if_pos (.inl hn)] at hS
      simp only [resI, hn, Qs, if_true, if_false, BEq.rfl, List.append_nil, List.nodup_nil, List.nodup_cons, Nat.reduceBEq, List.not_mem_nil, id @f33r26.eq_1, uu f33b27.eq_1, uu f33b28.eq_1, id @f33r29.eq_1, uu f33b30.eq_1, uu f33b31.eq_1]
      exact fin_L hS rfl
    have hq : IntKind.i64.wrap ((r.length : Int).tdiv 2) = ((r.length / 2 : Nat) : Int) := by
      rw [show (r.length : Int).tdiv 2 = ((r.length / 2 : Nat) : Int) from rfl]
      exact wrap_in (by omega) (by omega)
    by_cases hl : n > ((r.length / 2 : Nat) : Int)
    · rw [if_pos (.inr hl)] at hS
      simp only [resI, hn, hq, hl, Qs, if_true, if_false, ne_eq, BEq.rfl, List.append_nil, List.nodup_nil, List.nodup_cons, Nat.reduceBEq, Int.reduceEq, List.not_mem_nil, id @f33r26.eq_1, uu f33b27.eq_1, uu f33b28.eq_1, id @f33r29.eq_1, uu f33b30.eq_1, uu f33b31.eq_1]
      exact fin_L hS rfl
    rw [if_neg (fun h => h.elim hn hl)] at hS
    obtain ⟨k, rfl⟩ : ∃ k : Nat, n = k := ⟨n.toNat, by omega⟩
    rw [Int.toNat_natCast] at hS
    simp only [resI, hn, hq, hl, Qs, if_true, if_false, bne_iff_ne, ne_eq, Nat.reduceEqDiff, Nat.reduceBEq, Int.reduceEq, Int.reduceLE, uu f33b20.eq_1, id @f33r21.eq_1, uu f33b22.eq_1, uu f33b23.eq_1, id @f33r24.eq_1, uu f33b25.eq_1, uu f33b28.eq_1, id @f33r29.eq_1, uu f33b30.eq_1, uu f33b31.eq_1]
    refine ⟨by omega, by omega, ?_⟩
    rw [uf33l19]
    refine awl_loop (fun x : Nat × Txt × List Int => [(1, .k (.c (.fn 17 []))), (8, .str x.2.1), (10, .k (.own 34)), (35, .int .i64 (k : Int)), (36, .int .i64 x.1)]) (fun x => [(34, .arr 3 1 (some false) (ints x.2.2))])
      (fun x => x.1 ≤ k ∧ x.2.2.length = x.1 ∧ x.2.1.length ≤ s.length ∧ after x.2.2 (rN rI (k - x.1) x.2.1) = rN rI k r) (fun x => k - x.1) (0, r, []) rfl rfl ⟨Nat.zero_le _, rfl, hr, after_nil _⟩ ?_
    rintro ⟨i, q, acc⟩ ⟨g1, g2, g3, g4⟩
    simp only [] at g1 g2 g3 g4
    by_cases hlt : i < k
    · have c1 : (i : Int) < (k : Int) := by omega
      have c4 : IntKind.i64.wrap ((i : Int) + 1) = ((i + 1 : Nat) : Int) := by rw [wrap_in (by omega) (by omega)]; rfl
      rw [show k - i = (k - (i + 1)) + 1 by omega, rN_succ] at g4
      simp only [c1, Qs, if_true, Nat.reduceBEq, id @f33r3.eq_1, id @f33r11.eq_1, uu f33b12.eq_1, uu f33b13.eq_1, uu f33b14.eq_1, uu f33b15.eq_1, uu f33b16.eq_1, id @f33r17.eq_1, uu f33b18.eq_1]
      refine call_c (w17 q) ?_ (hr := resI_scalar _)
      cases h2 : rI q with
      | none =>
        rw [h2] at g4
        simp only [] at g4
        rw [← g4] at hS
        simp only [resI, Qs, if_true, bne_iff_ne, ne_eq, List.append_nil, List.nodup_nil, List.nodup_cons, Nat.reduceEqDiff, Nat.reduceBEq, List.not_mem_nil, id @f33r4.eq_1, id @f33r5.eq_1, uu f33b6.eq_1, uu f33b7.eq_1, id @f33r8.eq_1, uu f33b9.eq_1, uu f33b10.eq_1]
        exact fin_L hS rfl
      | some p =>
        obtain ⟨x, q'⟩ := p
        have hq2 := rI_len h2
        rw [h2] at g4
        simp only [] at g4
        have hsl := ints_len acc
        simp only [resI, c4, Qs, if_true, if_false, forall_eq, bne_iff_ne, ne_eq, List.mem_cons, Nat.reduceEqDiff, Nat.reduceLeDiff, Nat.reduceLT, Nat.reduceBEq, List.not_mem_nil, id @f33r4.eq_1, uu f33b7.eq_1, id @f33r8.eq_1, uu f33b9.eq_1, uu f33b10.eq_1]
        refine ⟨by omega, by omega, Next.intro (i + 1, q', acc ++ [x]) rfl ?_ ⟨by simp only []; omega, by simp [g2], by simp only []; omega, g4⟩ (by simp only []; omega)⟩
        rw [← ints_snoc]; rfl
    · have c1 : ¬ (i : Int) < (k : Int) := by omega
      simp only [c1, Qs, if_true, List.append_nil, List.nodup_nil, List.nodup_cons, Nat.reduceBEq, List.not_mem_nil, id @f33r1.eq_1, uu f33b2.eq_1, uu f33b15.eq_1, uu f33b16.eq_1, id @f33r17.eq_1, uu f33b18.eq_1]
      rw [show k - i = 0 by omega, rN] at g4
      rw [← g4] at hS
      exact fin_L hS (by simp [after, resLs])
theorem w34 (s : Txt) (hs : s.length ≤ 100000000) : Spec Tryd.prog 34 [.str s, .k (.c (.fn 19 []))] (fun r => r = resLs strs (rL rS s)) := by
  refine Spec.of_awlP hf34 okf34 (by simp) fun S hS => ?_
  unfold rL at hS
  simp only [Qs, Nat.reduceAdd, Nat.reduceBEq, uu f34.eq_1, id @f34r32.eq_1, uu f34b33.eq_1, id @f34r34.eq_1, uu f34b35.eq_1]
  refine call_s (w17 s) ?_ (hr := resI_scalar _)
  cases h : rI s with
  | none =>
    rw [h] at hS
    simp only [resI, Qs, if_true, BEq.rfl, List.append_nil, List.nodup_nil, List.nodup_cons, Nat.reduceBEq, List.not_mem_nil, id @f34r26.eq_1, uu f34b27.eq_1, uu f34b28.eq_1, id @f34r29.eq_1, uu f34b30.eq_1, uu f34b31.eq_1]
    exact fin_L hS rfl
  | some p =>
    obtain ⟨n, r⟩ := p
    have hr := rI_len h
    rw [h] at hS
    simp only [Option.bind_some] at hS
    by_cases hn : n < 0
    · rw [if_pos (.inl hn)] at hS
      simp only [resI, hn, Qs, if_true, if_false, BEq.rfl, List.append_nil, List.nodup_nil, List.nodup_cons, Nat.reduceBEq, List.not_mem_nil, id @f34r26.eq_1, uu f34b27.eq_1, uu f34b28.eq_1, id @f34r29.eq_1, uu f34b30.eq_1, uu f34b31.eq_1]
      exact fin_L hS rfl
    have hq : IntKind.i64.wrap ((r.length : Int).tdiv 2) = ((r.length / 2 : Nat) : Int) := by
      rw [show (r.length : Int).tdiv 2 = ((r.length / 2 : Nat) : Int) from rfl]
      exact wrap_in (by omega) (by omega)
    by_cases hl : n > ((r.length / 2 : Nat) : Int)
    · rw [if_pos (.inr hl)] at hS
      simp only [resI, hn, hq, hl, Qs, if_true, if_false, ne_eq, BEq.rfl, List.append_nil, List.nodup_nil, List.nodup_cons, Nat.reduceBEq, Int.reduceEq, List.not_mem_nil, id @f34r26.eq_1, uu f34b27.eq_1, uu f34b28.eq_1, id @f34r29.eq_1, uu f34b30.eq_1, uu f34b31.eq_1]
      exact fin_L hS rfl
    rw [if_neg (fun h => h.elim hn hl)] at hS
    obtain ⟨k, rfl⟩ : ∃ k : Nat, n = k := ⟨n.toNat, by omega⟩
    rw [Int.toNat_natCast] at hS
    simp only [resI, hn, hq, hl, Qs, if_true, if_false, bne_iff_ne, ne_eq, Nat.reduceEqDiff, Nat.reduceBEq, Int.reduceEq, Int.reduceLE, uu f34b20.eq_1, id @f34r21.eq_1, uu f34b22.eq_1, uu f34b23.eq_1, id @f34r24.eq_1, uu f34b25.eq_1, uu f34b28.eq_1, id @f34r29.eq_1, uu f34b30.eq_1, uu f34b31.eq_1]
    refine ⟨by omega, by omega, ?_⟩
    rw [uf34l19]
    refine awl_loop (fun x : Nat × Txt × List Txt => [(1, .k (.c (.fn 19 []))), (8, .str x.2.1), (10, .k (.own 34)), (35, .int .i64 (k : Int)), (36, .int .i64 x.1)]) (fun x => [(34, .arr 9 1 (some false) (strs x.2.2))])
      (fun x => x.1 ≤ k ∧ x.2.2.length = x.1 ∧ x.2.1.length ≤ s.length ∧ after x.2.2 (rN rS (k - x.1) x.2.1) = rN rS k r) (fun x => k - x.1) (0, r, []) rfl rfl ⟨Nat.zero_le _, rfl, hr, after_nil _⟩ ?_
    rintro ⟨i, q, acc⟩ ⟨g1, g2, g3, g4⟩
    simp only [] at g1 g2 g3 g4
    by_cases hlt : i < k
    · have c1 : (i : Int) < (k : Int) := by omega
      have c4 : IntKind.i64.wrap ((i : Int) + 1) = ((i + 1 : Nat) : Int) := by rw [wrap_in (by omega) (by omega)]; rfl
      rw [show k - i = (k - (i + 1)) + 1 by omega, rN_succ] at g4
      simp only [c1, Qs, if_true, Nat.reduceBEq, id @f34r3.eq_1, id @f34r11.eq_1, uu f34b12.eq_1, uu f34b13.eq_1, uu f34b14.eq_1, uu f34b15.eq_1, uu f34b16.eq_1, id @f34r17.eq_1, uu f34b18.eq_1]
      refine call_c (w19 q (by omega)) ?_ (hr := resS_scalar _)
      cases h2 : rS q with
      | none =>
        rw [h2] at g4
        simp only [] at g4
        rw [← g4] at hS
        simp only [resS, Qs, if_true, bne_iff_ne, ne_eq, List.append_nil, List.nodup_nil, List.nodup_cons, Nat.reduceEqDiff, Nat.reduceBEq, List.not_mem_nil, id @f34r4.eq_1, id @f34r5.eq_1, uu f34b6.eq_1, uu f34b7.eq_1, id @f34r8.eq_1, uu f34b9.eq_1, uu f34b10.eq_1]
        exact fin_L hS rfl
      | some p =>
        obtain ⟨x, q'⟩ := p
        have hq2 := rS_len h2
        rw [h2] at g4
        simp only [] at g4
        have hsl := strs_len acc
        simp only [resS, c4, Qs, if_true, if_false, forall_eq, bne_iff_ne, ne_eq, List.mem_cons, Nat.reduceEqDiff, Nat.reduceLeDiff, Nat.reduceLT, Nat.reduceBEq, List.not_mem_nil, id @f34r4.eq_1, uu f34b7.eq_1, id @f34r8.eq_1, uu f34b9.eq_1, uu f34b10.eq_1]
        refine ⟨by omega, by omega, Next.intro (i + 1, q', acc ++ [x]) rfl ?_ ⟨by simp only []; omega, by simp [g2], by simp only []; omega, g4⟩ (by simp only []; omega)⟩
        rw [← strs_snoc]; rfl
    · have c1 : ¬ (i : Int) < (k : Int) := by omega
      simp only [c1, Qs, if_true, List.append_nil, List.nodup_nil, List.nodup_cons, Nat.reduceBEq, List.not_mem_nil, id @f34r1.eq_1, uu f34b2.eq_1, uu f34b15.eq_1, uu f34b16.eq_1, id @f34r17.eq_1, uu f34b18.eq_1]
      rw [show k - i = 0 by omega, rN] at g4
      rw [← g4] at hS
      exact fin_L hS (by simp [after, resLs])
theorem resLs_tup {α : Type} (rows : List α → List (List C)) (r : Option (List α × Txt)) : (resLs rows r).scalar = false := by
  unfold resLs; split <;> rfl
theorem fin_T {S : V → Prop} {X : V} (h : ∀ r, r.fz.nrm = X → S r) {rows : List (List C)} (hn : C.normRows rows = rows) {t : Txt} {b : Bool} (hX : X = .tup [lst 1 rows, .str t, .bool b]) : S (.tup [.k (.c (lstC 1 rows)), .k (.c (.str t)), .k (.c (.bool b))]) := by
  refine h _ ?_
  simp only [V.fz, V.fzL, V.nrm, V.nrmL, Abs.K.fz, Abs.K.nrm, norm_lst, norm_str, norm_bool, hX, hn]
theorem w21 (s : Txt) (hs : s.length ≤ 100000000) : Spec Tryd.prog 21 [.str s] (fun r => r = resLs ints (rL rI s)) := by
  refine Spec.of_awlP hf21 okf21 (by simp) fun S hS => ?_
  simp only [Qs, Nat.reduceBEq, uu f21.eq_1, id @f21r1.eq_1, uu f21b2.eq_1, id @f21r3.eq_1, uu f21b4.eq_1]
  refine call_r (w33 s hs) ?_ (hr := resLs_tup _ _)
  cases h : rL rI s with
  | none =>
    rw [h] at hS
    simp only [resLs, Qs, List.append_nil, List.nodup_nil, Nat.reduceAdd, Nat.reduceMul, Nat.reduceBEq]
    exact fin_T hS (normRows_ints _) rfl
  | some p =>
    obtain ⟨l, r⟩ := p
    rw [h] at hS
    simp only [resLs, Qs, List.append_nil, List.nodup_nil, Nat.reduceAdd, Nat.reduceMul, Nat.reduceBEq]
    exact fin_T hS (normRows_ints _) rfl
theorem w24 (s : Txt) (hs : s.length ≤ 100000000) : Spec Tryd.prog 24 [.str s] (fun r => r = resLs strs (rL rS s)) := by
  refine Spec.of_awlP hf24 okf24 (by simp) fun S hS => ?_
  simp only [Qs, Nat.reduceBEq, uu f24.eq_1, id @f24r1.eq_1, uu f24b2.eq_1, id @f24r3.eq_1, uu f24b4.eq_1]
  refine call_r (w34 s hs) ?_ (hr := resLs_tup _ _)
  cases h : rL rS s with
  | none =>
    rw [h] at hS
    simp only [resLs, Qs, List.append_nil, List.nodup_nil, Nat.reduceAdd, Nat.reduceMul, Nat.reduceBEq]
    exact fin_T hS (normRows_strs _) rfl
  | some p =>
    obtain ⟨l, r⟩ := p
    rw [h] at hS
    simp only [resLs, normRows_strs, Qs, List.append_nil, List.nodup_nil, Nat.reduceAdd, Nat.reduceMul, Nat.reduceBEq]
    exact fin_T hS (normRows_strs _) rfl
end Go.Abs


set_option maxRecDepth 100000
set_option maxHeartbeats 4000000
namespace Go.Abs
open Go.Proofs Go.Wire
theorem e1 : wL wI [4, 0] = [50, 59, 52, 59, 48, 59] := by kernel_rfl
theorem e2 : wL wS [[], [120]] = [50, 59, 48, 59, 49, 59, 120] := by kernel_rfl
theorem e3 : rI [45, 48, 59] = none := by kernel_rfl
theorem e4 : rI [57, 50, 50, 51, 51, 55, 50, 48, 51, 54, 56, 53, 52, 55, 55, 53, 56, 48, 56, 59] = none := by kernel_rfl
theorem e5 : rI [45, 57, 50, 50, 51, 51, 55, 50, 48, 51, 54, 56, 53, 52, 55, 55, 53, 56, 48, 56, 59] = some (-9223372036854775808, []) := by kernel_rfl
theorem e6 : wI (-7) = [45, 55, 59] := by kernel_rfl
theorem e7 : wS [97, 98, 59] = [51, 59, 97, 98, 59] := by kernel_rfl
theorem e8 : rL rI [50, 59, 52, 59, 48, 59, 120] = some ([4, 0], [120]) := by kernel_rfl
theorem e9 : rL rS [50, 59, 48, 59, 49, 59, 120] = some ([[], [120]], []) := by kernel_rfl
theorem w8 : Spec Tryd.prog 8 [] (fun r => r = .bool true) := by
  refine Spec.of_awlS hf8 okf8 (by simp) fun S hS => ?_
  simp only [Qs, uu f8.eq_1, id @f8r17.eq_1, uu f8b18.eq_1, id @f8r19.eq_1, uu f8b20.eq_1]
  refine call_r (w21 [50, 59, 52, 59, 48, 59, 120] (by simp)) ?_ (hr := resLs_tup _ _)
  rw [e8]
  simp only [resLs, Qs, List.append_nil, Nat.reduceAdd, Nat.reduceMul, Nat.reduceBEq, id @f8r15.eq_1, uu f8b16.eq_1]
  refine call_r (w24 [50, 59, 48, 59, 49, 59, 120] (by simp)) ?_ (hr := resLs_tup _ _)
  rw [e9]
  simp only [resLs, Qs, List.append_nil, Nat.reduceAdd, Nat.reduceMul, Nat.reduceBEq, id @f8r13.eq_1, uu f8b14.eq_1]
  refine call_s (w17 [45, 48, 59]) ?_ (hr := resI_scalar _)
  rw [e3]
  simp only [resI, Qs, Nat.reduceBEq, id @f8r11.eq_1, uu f8b12.eq_1]
  refine call_s (w17 [57, 50, 50, 51, 51, 55, 50, 48, 51, 54, 56, 53, 52, 55, 55, 53, 56, 48, 56, 59]) ?_ (hr := resI_scalar _)
  rw [e4]
  simp only [resI, Qs, Nat.reduceBEq, id @f8r9.eq_1, uu f8b10.eq_1]
  refine call_s (w17 [45, 57, 50, 50, 51, 51, 55, 50, 48, 51, 54, 56, 53, 52, 55, 55, 53, 56, 48, 56, 59]) ?_ (hr := resI_scalar _)
  rw [e5]
  have ls : ((strs [[], [120]]).length : Int) = 2 := rfl
  simp only [resI, ls, Qs, if_true, if_false, Int.reduceNeg, Nat.reduceAdd, Nat.reduceBEq, Int.reduceBNe, id @f8r1.eq_1, uu f8b2.eq_1, uu f8b5.eq_1, id @f8r6.eq_1, uu f8b7.eq_1, uu f8b8.eq_1]
  refine call_s (w9 (-7) (by simp [inI])) ?_
  rw [e6]
  simp only [beq_self_eq_true, Qs, Int.reduceNeg]
  refine call_s (w11 [97, 98, 59] (by simp)) ?_
  rw [e7]
  simp only [beq_self_eq_true, Qs, if_true, forall_eq_or_imp, forall_eq, Int.reduceNeg, List.mem_cons, Nat.reduceLT, Nat.reduceBEq, List.not_mem_nil]
  refine call_s (w13 [4, 0] (by simp [okIs, inI])) ?_ (ha := by rfl)
  rw [e1]
  simp only [beq_self_eq_true, Qs, if_true, forall_eq_or_imp, forall_eq, bne_iff_ne, ne_eq, Int.reduceNeg, List.mem_cons, Nat.reduceEqDiff, Nat.reduceLT, Nat.reduceBEq, List.not_mem_nil]
  refine call_s (w15 [[], [120]] (by simp [okSs, bk])) ?_ (ha := by rfl)
  rw [e2]
  have li : ((ints [4, 0]).length : Int) = 2 := rfl
  have g0 : (ints [4, 0]).getD 0 [] = [.int .i64 4] := rfl
  have g1 : (ints [4, 0]).getD 1 [] = [.int .i64 0] := rfl
  have g2 : (strs [[], [120]]).getD 1 [] = [.str [120]] := rfl
  simp only [beq_self_eq_true, li, ls, g0, g1, g2, Qs, if_true, Int.reduceNeg, List.nodup_nil, Nat.reduceAdd, Nat.reduceBEq, Int.reduceLT, Int.reduceLE, Int.reduceToNat]
  exact hS
end Go.Abs


set_option maxRecDepth 100000
set_option maxHeartbeats 4000000
namespace Go.Abs
open Go.Proofs Go.Wire
def iN (r : Option (Int × Txt)) : Int := match r with | some p => p.1 | none => 0
def iR {α : Type} (r : Option (α × Txt)) : Txt := match r with | some p => p.2 | none => []
def iB {α : Type} (r : Option (α × Txt)) : Bool := r.isSome
def iT (r : Option (Txt × Txt)) : Txt := match r with | some p => p.1 | none => []
def iL {α : Type} (r : Option (List α × Txt)) : List α := match r with | some p => p.1 | none => []
theorem resI_eq (r : Option (Int × Txt)) : resI r = .tup [.int .i64 (iN r), .str (iR r), .bool (iB r)] := by cases r <;> rfl
theorem resS_eq (r : Option (Txt × Txt)) : resS r = .tup [.str (iT r), .str (iR r), .bool (iB r)] := by cases r <;> rfl
theorem resLs_eq {α : Type} (rows : List α → List (List C)) (r : Option (List α × Txt)) : resLs rows r = .tup [lst 1 (rows (iL r)), .str (iR r), .bool (iB r)] := by cases r <;> rfl
theorem l3 (n : Int) (s : Txt) (l : List Int) (t : List Txt) (text : Txt) (hn : inI n) (hs : s.length ≤ 100000000) (hl : okIs l) (ht : okSs t) (hx : text.length ≤ 100000000) :
    Spec Tryd.prog 3 [.int .i64 n, .str s, lst 1 (ints l), lst 1 (strs t), .str text] (fun r => r = .bool true) := by
  refine Spec.of_awlS hf3 okf3 (by simp) fun S hS => ?_
  simp only [Qs, Nat.reduceAdd, uu f3.eq_1, id @f3r43.eq_1, uu f3b44.eq_1, id @f3r45.eq_1, uu f3b46.eq_1]
  refine call_s w8 ?_
  simp only [Qs, Nat.reduceBEq, id @f3r40.eq_1, uu f3b41.eq_1, uu f3b42.eq_1]
  refine call_s (w9 n hn) ?_
  simp only [Qs, Nat.reduceBEq]
  refine call_s (w10 n hn) ?_
  simp only [beq_self_eq_true, Qs, Nat.reduceBEq]
  refine call_s (w11 s (by omega)) ?_
  simp only [Qs, Nat.reduceBEq]
  refine call_s (w12 s (by omega)) ?_
  simp only [beq_self_eq_true, Qs, if_false, Nat.reduceBEq]
  refine call_s (w13 l hl) ?_
  simp only [Qs, Nat.reduceBEq]
  refine call_s (w14 l hl) ?_
  simp only [beq_self_eq_true, Qs, if_false, Nat.reduceBEq]
  refine call_s (w15 t ht) ?_
  simp only [Qs, Nat.reduceBEq]
  refine call_s (w16 t ht) ?_
  simp only [beq_self_eq_true, Qs, if_false, Nat.reduceBEq, id @f3r35.eq_1, uu f3b36.eq_1, uu f3b39.eq_1]
  refine call_s (w17 text) ?_ (hr := resI_scalar _)
  simp only [resI_eq, Qs, Nat.reduceBEq, id @f3r33.eq_1, uu f3b34.eq_1]
  refine call_s (w18 text (by omega)) ?_ (hr := resI_scalar _)
  simp only [resI_eq, beq_self_eq_true, bne_self_eq_false, Qs, if_true, if_false, Nat.reduceBEq, id @f3r25.eq_1, uu f3b26.eq_1, uu f3b29.eq_1, id @f3r30.eq_1, uu f3b31.eq_1, uu f3b32.eq_1]
  refine call_s (w19 text (by omega)) ?_ (hr := resS_scalar _)
  simp only [resS_eq, Qs, Nat.reduceBEq, id @f3r23.eq_1, uu f3b24.eq_1]
  refine call_s (w20 text (by omega)) ?_ (hr := resS_scalar _)
  simp only [resS_eq, beq_self_eq_true, bne_self_eq_false, Qs, if_true, if_false, Nat.reduceBEq, id @f3r15.eq_1, uu f3b16.eq_1, uu f3b19.eq_1, id @f3r20.eq_1, uu f3b21.eq_1, uu f3b22.eq_1]
  refine call_r (w21 text hx) ?_ (hr := resLs_tup _ _)
  simp only [resLs_eq, Qs, List.append_nil, Nat.reduceAdd, Nat.reduceMul, Nat.reduceBEq, id @f3r13.eq_1, uu f3b14.eq_1]
  refine call_r (w22 text hx) ?_ (hr := resLs_tup _ _)
  simp only [resLs_eq, Qs, List.append_nil, Nat.reduceAdd, Nat.reduceMul, Nat.reduceBEq, id @f3r10.eq_1, uu f3b11.eq_1, uu f3b12.eq_1]
  refine call_s (w23 (iL (rL rI text)) (iL (rL rI text))) ?_
  simp only [decide_true, beq_self_eq_true, bne_self_eq_false, Qs, if_true, if_false, Nat.reduceBEq, id @f3r5.eq_1, uu f3b6.eq_1, uu f3b9.eq_1]
  refine call_r (w24 text hx) ?_ (hr := resLs_tup _ _)
  simp only [resLs_eq, Qs, List.append_nil, Nat.reduceAdd, Nat.reduceMul, Nat.reduceBEq, id @f3r3.eq_1, uu f3b4.eq_1]
  refine call_r (w25 text hx) ?_ (hr := resLs_tup _ _)
  simp only [resLs_eq, Qs, List.append_nil, Nat.reduceAdd, Nat.reduceMul, Nat.reduceBEq, id @f3r1.eq_1, uu f3b2.eq_1]
  refine call_s (w26 (iL (rL rS text)) (iL (rL rS text))) ?_
  simp only [decide_true, beq_self_eq_true, bne_self_eq_false, Qs, if_true, if_false, List.nodup_nil, Nat.reduceBEq]
  exact hS
end Go.Abs


set_option maxRecDepth 100000
namespace Go.Abs
open Go.Wire
theorem wf_inI {m : Int} (h : (Lit.int .i64 m).wf = true) : inI m := by
  have := (Lit.wf_int_iff _ _).1 h
  simpa [IntKind.min, IntKind.max, IntKind.signed, IntKind.bits, inI] using this
section
variable {P : Program}
theorem arg_i64 {n : Nat} {t : TypeId} {r : List C} (ht : P.underlying t = some (.int .i64)) (hr : Shape P n t r) : ∃ m : Int, argV P t r = .int .i64 m ∧ inI m := by
  obtain ⟨m, rfl, h⟩ := shape_int ht hr
  exact ⟨m, by simp only [argV, ht], wf_inI h⟩
theorem arg_txt {n : Nat} {t : TypeId} {r : List C} (ht : P.underlying t = some .string) (hr : Shape P n t r) : ∃ s : Txt, argV P t r = .str s := by
  obtain ⟨s, rfl, _⟩ := shape_str ht hr
  exact ⟨s, by simp only [argV, ht]⟩
theorem arg_is {n : Nat} {t e : TypeId} {r : List C} (ht : P.underlying t = some (.slice e)) (he : P.underlying e = some (.int .i64)) (hc : P.cellsOf e = 1) (hr : Shape P n t r) : ∃ l : List Int, argV P t r = lst 1 (ints l) ∧ ∀ x ∈ l, inI x := by
  obtain ⟨m, rows, rfl, rfl, hlen, h⟩ := shape_slice ht hr
  clear hlen
  have hex : ∃ l : List Int, rows = l.map encI ∧ ∀ x ∈ l, inI x := by
    clear hr
    induction rows with
    | nil => exact ⟨[], rfl, by simp⟩
    | cons a rows ih =>
      obtain ⟨l, rfl, hl⟩ := ih fun x hx => h x (by simp [hx])
      obtain ⟨x, rfl, hx⟩ := shape_int he (h a (by simp))
      refine ⟨x :: l, rfl, fun y hy => ?_⟩
      rcases List.mem_cons.1 hy with rfl | hy
      · exact wf_inI hx
      · exact hl y hy
  obtain ⟨l, rfl, hl⟩ := hex
  exact ⟨l, by simp only [argV, ht, hc]; rfl, hl⟩
theorem arg_ss {n : Nat} {t e : TypeId} {r : List C} (ht : P.underlying t = some (.slice e)) (he : P.underlying e = some .string) (hc : P.cellsOf e = 1) (hr : Shape P n t r) : ∃ l : List Txt, argV P t r = lst 1 (strs l) := by
  obtain ⟨m, rows, rfl, rfl, _, h⟩ := shape_slice ht hr
  obtain ⟨l, rfl⟩ := rows_of encS (fun r hr => by obtain ⟨x, rfl, _⟩ := shape_str he hr; exact ⟨x, rfl⟩) rows h
  exact ⟨l, by simp only [argV, ht, hc]; rfl⟩
theorem bulk_ints : ∀ l : List Int, C.bulkRows (ints l) = l.length
  | [] => rfl
  | x :: l => by have := bulk_ints l; simp only [ints, List.map_cons, C.bulkRows, C.bulkRow, C.bulk, List.length_cons] at this ⊢; omega
theorem bulk_strs : ∀ l : List Txt, C.bulkRows (strs l) = bk l
  | [] => rfl
  | x :: l => by have := bulk_strs l; simp only [strs, encS, List.map_cons, C.bulkRows, C.bulkRow, C.bulk, bk] at this ⊢; omega
theorem bulk_is (l : List Int) : V.bulk (lst 1 (ints l)) = l.length + 1 := by
  have := bulk_ints l
  simp only [V.bulk, lstC, C.bulk, this]
theorem bulk_ss (l : List Txt) : V.bulk (lst 1 (strs l)) = bk l + 1 := by
  have := bulk_strs l
  simp only [V.bulk, lstC, C.bulk, this]
theorem bulk_str (s : Txt) : V.bulk (.str s) = s.length + 1 := rfl
theorem bulk_int (k : IntKind) (n : Int) : V.bulk (.int k n) = 1 := rfl
end
theorem ifc_trod {H : Type} {enc : TypeId × Value → H} {P : Program} {w : World} {base : Nat} {sp : Nat → Bool} {held : Bool} {fuel : Nat} {t : TypeId} {ms : Array (String × TypeId)} {cs : List Value} {x : DataW H × List MemPlace}
    (ht : P.underlying t = some (.interface ms)) (h : DataW.trod enc P w base sp held fuel t cs = some x) : ∃ v, cs = [v] ∧ (v = .nilIface ∨ ∃ t p, v = .iface t p) := by
  cases fuel with
  | zero => simp [DataW.trod] at h
  | succ n =>
    unfold DataW.trod at h
    rw [ht] at h
    split at h <;> simp_all
end Go.Abs
namespace Go.Proofs.YtcibefohnikdeaaDoor
open Go.Abs Go.RowKit Go.ChangeShapes Go.WideShapes Go.ChangeAt Go.WideMaps Go.WideElems Go.Wire
theorem own : ownKnob Tryd.prog.godebug = none := by kernel_rfl
theorem kids : Kids Tryd.prog (· < Tryd.prog.types.size) := kids_rows (by kernel_rfl) (by kernel_rfl)
theorem full : ∀ t e, t < Tryd.prog.types.size → Tryd.prog.underlying t = some (.slice e) → 0 < Tryd.prog.cellsOf e := slices_full_of Tryd.prog (by kernel_rfl)
def plainTs : List TypeId := [3, 4, 9, 22, 23, 41]
theorem plainTs_ok : plainT Tryd.prog plainTs = true := by kernel_rfl
theorem plainTs_lt : ∀ t ∈ plainTs, t < Tryd.prog.types.size := by
  have : plainTs.all (fun t => decide (t < Tryd.prog.types.size)) = true := by kernel_rfl
  simpa using this
theorem one3 : Tryd.prog.cellsOf 3 = 1 := by kernel_rfl
theorem one9 : Tryd.prog.cellsOf 9 = 1 := by kernel_rfl
theorem bulkR (H : Type) : Bulk (H := H) Rows.uptoBulk Rows.uptoBulkAll where
  one d := by
    cases d with
    | lit l => cases l <;> simp [Rows.uptoBulk]
    | nil => simp [Rows.uptoBulk]
    | ptr d => simp [Rows.uptoBulk]
    | slice elems spare => simp [Rows.uptoBulk]
    | agg parts => simp [Rows.uptoBulk]
    | iface t d => simp [Rows.uptoBulk]
    | map entries => simp [Rows.uptoBulk]
    | held h => simp [Rows.uptoBulk]
  str s := by simp [Rows.uptoBulk]
  slice es sp := by simp only [Rows.uptoBulk]; omega
  agg ps := by simp [Rows.uptoBulk]
  cons d l := by simp [Rows.uptoBulkAll]
abbrev laidL : List (String × DataW Unit) := Rows.wireTellsUptoRow.laid
theorem block_of {W : World} {name : String} {g : Nat} {cs : Array Value} (hn : Tryd.prog.globalNamed name = some g) (hv : W.var? Tryd.prog name = some cs) : ∃ t f, W.heap[g]? = some (.cells cs t f) := by
  unfold World.var? at hv
  rw [hn, Option.bind_some] at hv
  split at hv
  · rename_i h
    cases hv
    exact ⟨_, _, h⟩
  · cases hv
theorem err_of {W : World} (h : laidMet Tryd.prog laidL W) {name : String} {g : Nat} {d : DataW Unit} (hn : Tryd.prog.globalNamed name = some g) (ht : (Tryd.prog.globals[g]?).map (·.type) = some 48) (hm : (name, d) ∈ laidL) :
    g < W.heap.size ∧ ∃ b, W.heap[g]? = some b ∧ cell0 (fun v => v = .nilIface ∨ ∃ t p, v = .iface t p) b := by
  obtain ⟨g', t', cs, fuel, p, hg, hty, hvar, hd⟩ := Lib.laidMet.reads h hm
  obtain rfl := Option.some.inj (hn.symm.trans hg)
  obtain rfl := Option.some.inj (ht.symm.trans hty)
  obtain ⟨v, e, hv⟩ := ifc_trod Tryd.underlying48 hd
  obtain ⟨t, f, hb⟩ := block_of hn hvar
  refine ⟨(Array.getElem?_eq_some_iff.1 hb).1, _, hb, v, ?_, hv⟩
  rw [← Array.getElem?_toList, e]; rfl
theorem glob_of {W : World} (hL : laidMetH Tryd.prog laidL W) (hsh : W.ShapedOpen Tryd.prog) : GlobB (Go.Abs.base W) := by
  rw [MakeChecks.laidMetH_plain _ _ _ (by kernel_rfl)] at hL
  refine ⟨(fun _ _ h => nomatch h), fun g p hg => ?_⟩
  match g, hg with
  | 0, hg =>
    cases hg
    obtain ⟨m, hm⟩ := cell_of_shapedOpen_int (zero := #[.int .i64 0]) (t := 3) (k := .i64) (g := 0) hsh (of_decide_eq_true (by kernel_rfl)) (by kernel_rfl) rfl (by kernel_rfl) (by kernel_rfl) Tryd.underlying3
    unfold World.cell? at hm
    cases hb : W.heap[0]? with
    | none => rw [hb] at hm; simp at hm
    | some ob =>
      refine ⟨(Array.getElem?_eq_some_iff.1 hb).1, ob, rfl, ?_⟩
      rw [hb] at hm
      cases ob with
      | cells cs t f => exact ⟨_, by simpa using hm, m, rfl⟩
      | _ => simp at hm
  | 1, hg => cases hg; exact err_of hL (name := "strconv.ErrSyntax") (by kernel_rfl) (by kernel_rfl) (.tail _ (.tail _ (.tail _ (.tail _ (.head _)))))
  | 2, hg => cases hg; exact err_of hL (name := "strconv.ErrRange") (by kernel_rfl) (by kernel_rfl) (.tail _ (.tail _ (.tail _ (.head _))))
  | 3, hg =>
    cases hg
    obtain ⟨g', t', cs, fuel, p, hg', hty, hvar, hd⟩ := Lib.laidMet.reads hL (n := "internal/strconv.uint64pow10") (.tail _ (.tail _ (.head _)))
    have hn : Tryd.prog.globalNamed "internal/strconv.uint64pow10" = some 3 := by kernel_rfl
    obtain rfl := Option.some.inj (hn.symm.trans hg')
    have h85 : (Tryd.prog.globals[3]?).map (·.type) = some 85 := by kernel_rfl
    obtain rfl := Option.some.inj (h85.symm.trans hty)
    obtain ⟨t, f, hb⟩ := block_of hn hvar
    refine ⟨(Array.getElem?_eq_some_iff.1 hb).1, _, hb, ?_⟩
    have hd' : DataW.trod (fun _ => ()) Tryd.prog W 0 (fun _ => true) false fuel 85 cs.toList = some (Lib.tabData .u64 pow10T, p) := hd
    have e := Lib.cells_of_tab Tryd.underlying85 Tryd.underlying69 (by kernel_rfl) (by kernel_rfl) hd'
    show cs = _
    rw [← e]
theorem door_met (os : Os) (args : Array Value) : laidMetH Tryd.prog laidL ((World.doorLaid Tryd.prog 400 os).forCall (fun _ _ => 0) ⟨#[], args, []⟩).memory :=
  laidMetH_of_parts3 (fuel := 8) (laidMet_of_run' 8 (by kernel_rfl) (by kernel_rfl)) (by kernel_rfl) (by kernel_rfl)
end Go.Proofs.YtcibefohnikdeaaDoor


set_option maxRecDepth 100000
namespace Go.Proofs.YtcibefohnikdeaaDoor
open Go.Abs Go.RowKit Go.ChangeShapes Go.WideShapes Go.ChangeAt Go.WideMaps Go.WideElems Go.Wire
theorem spec3 (xs : List V) (h : ArgsOf Tryd.prog [3, 9, 22, 23, 9] xs) (hb : bulkVs xs ≤ 1048576) : Go.Abs.Spec Tryd.prog 3 xs (fun r => r = .bool true) := by
  match xs, h, hb with
  | [a0, a1, a2, a3, a4], ⟨⟨_, _, h0, q0⟩, ⟨_, _, h1, q1⟩, ⟨_, _, h2, q2⟩, ⟨_, _, h3, q3⟩, ⟨_, _, h4, q4⟩, _⟩, hb =>
    obtain ⟨x0, e0, r0⟩ := arg_i64 Tryd.underlying3 h0
    obtain ⟨x1, e1⟩ := arg_txt Tryd.underlying9 h1
    obtain ⟨x2, e2, r2⟩ := arg_is Tryd.underlying22 Tryd.underlying3 one3 h2
    obtain ⟨x3, e3⟩ := arg_ss Tryd.underlying23 Tryd.underlying9 one9 h3
    obtain ⟨x4, e4⟩ := arg_txt Tryd.underlying9 h4
    rw [q0, q1, q2, q3, q4, e0, e1, e2, e3, e4]
    rw [q0, q1, q2, q3, q4, e0, e1, e2, e3, e4] at hb
    simp only [bulkVs, bulk_int, bulk_is, bulk_ss, bulk_str] at hb
    exact l3 x0 x1 x2 x3 x4 r0 (by omega) ⟨by omega, r2⟩ (by unfold okSs; omega) (by omega)
theorem reads3 (os : Os) {H : Type} (enc : TypeId × Value → H) : ∃ places, DataW.whole enc Tryd.prog ((World.doorLaid Tryd.prog 400 os).forCall (fun _ _ => 0) ⟨#[], #[Value.int .i64 0, .string ⟨#[]⟩, .slice none 0 0, .slice none 0 0, .string ⟨#[]⟩], []⟩).memory Tryd.f3.params.toList Rows.wireTellsSpec.vars false #[Value.int .i64 0, .string ⟨#[]⟩, .slice none 0 0, .slice none 0 0, .string ⟨#[]⟩].toList 8 = some ([.lit (.int .i64 0), .lit (.string []), .nil, .nil, .lit (.string [])], [], places) :=
  ⟨[], by kernel_rfl⟩
theorem lifted3 (os : Os) (started : os.Started) (H : Type) (enc : TypeId × Value → H) (F : Stop.Interp) :
    ReturnsInHanded {} Tryd.checked os 3 .any ((Rows.OpenSpec.upto Rows.wireTellsSpec).preRow enc Tryd.prog Tryd.f3 Rows.wireTellsUptoRow.domain false Rows.wireTellsUptoRow.laid) (((Rows.OpenSpec.upto Rows.wireTellsSpec).at F).post enc Tryd.prog Tryd.f3 false true false false) := by
  obtain ⟨places, hx⟩ := reads3 os enc
  refine returnsInHanded_of_row (C := Tryd.checked) (s := Rows.OpenSpec.upto Rows.wireTellsSpec) own started (by kernel_rfl) Tryd.func3
    (witness_row_atRef (enc := enc) (C := Tryd.checked) false (World.doorLaid Tryd.prog 400 os) #[Value.int .i64 0, .string ⟨#[]⟩, .slice none 0 0, .slice none 0 0, .string ⟨#[]⟩] rfl (by kernel_rfl) (by kernel_rfl) (by kernel_rfl)
      (OpenSpec.preRow_of_cond 8 hx (by kernel_rfl) (fun k hk => by cases hk; kernel_rfl) (by kernel_rfl) (door_met os _))) ?_
  intro W base args ds gs before hval hW _ hcond _ hL hsh _
  have hk : Rows.uptoBulkAll (ds ++ gs) ≤ 1048576 := of_decide_eq_true (hcond _ rfl)
  refine law_contractU (C := Tryd.checked) (T := plainTs) (tb := 4) (s := Rows.wireTellsSpec) plainTs_ok plainTs_lt ?_ kids full rfl ?_ ?_ Tryd.underlying4 W base args ds gs before (N := 1048576) ?_ hval hW (glob_of hL hsh)
  · rw [Tryd.params3]; decide
  · intro ds hds
    rw [Tryd.params3] at hds
    match ds, hds with
    | [a0, a1, a2, a3, a4], _ => rfl
  · kernel_rfl
  · intro xs hxs hb
    rw [Tryd.params3] at hxs
    exact spec3 xs hxs (hb ⟨_, _, bulkR H, hk⟩)
theorem WireTells_row : Rows.WireTellsUptoSaid :=
  OpenClaim.holds_of_cond 3 Tryd.f3 rfl rfl rfl rfl rfl rfl rfl ⟨rfl, rfl, rfl, rfl, rfl⟩ rfl rfl rfl rfl rfl (by kernel_rfl) Tryd.func3 (by kernel_rfl)
    (of_decide_eq_true (by kernel_rfl)) (by unfold Func.isWrapper; first | (rw [if_pos (by decide +kernel)]; kernel_rfl) | (rw [if_neg (by decide +kernel)]; exact ⟨rfl, rfl⟩))
    (fun os started H enc _ F => by rw [OpenClaim.pre_eq_preRow]; exact lifted3 os started H enc F)
theorem WireTells_holds : Rows.WireTellsUptoCardSaid :=
  Claim7.holds_tied_plain_at .later [] _ _ _ _ WireTells_row (fun _ h => by cases h) (by kernel_rfl) (fun _ h => by cases h) wireTellsUpto_row_tie rfl ⟨rfl, rfl⟩ (by kernel_rfl) rfl
    (fun f fn hf hfn => by
      obtain rfl : f = 3 := Option.some.inj ((show Tryd.prog.funcNamed "allonge/allongelaw01.WireTells" = some 3 by kernel_rfl).symm.trans hf) |>.symm
      obtain rfl : fn = Tryd.f3 := (Option.some.inj (Tryd.func3.symm.trans hfn)).symm
      exact ⟨by kernel_rfl, fun j t ht => by
        rw [Tryd.params3] at ht
        have hm : t ∈ [3, 9, 22, 23, 9] := by simpa using Array.mem_of_getElem? ht
        have hall : ([3, 9, 22, 23, 9].all fun u => !Tryd.prog.wantsStandIn u) = true := by kernel_rfl
        exact (show Tryd.prog.wantsStandIn t = false by simpa using List.all_eq_true.1 hall t hm)⟩)
    (by kernel_rfl)
end Go.Proofs.YtcibefohnikdeaaDoor

