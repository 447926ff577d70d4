/- A part of the proof; the last text states what is proved. -/
import Derived.Test.YtnendldalcpgeaaGreatDoorP5
import Derived.Deep.RegionLaw
import Derived.Maps.Own
import Derived.Maps.OwnOps
import Derived.Maps.Views
import Derived.Maps.AppendAt
import Derived.Sort.OwnSorted
import Derived.Lib.OwnBridge
import Derived.Lib.RowBridge
import Derived.Shelf.Slices.Turned
import Derived.Test.YtnendldalcpgeaaGreatDoorRows
import Derived.Test.YtnendldalcpgeaaGreatDoorCards
import Derived.Test.YtnendldalcpgeaaGreatDoorTie
import Derived.ProofKit
import Derived.DataShut
import Derived.LaidMore
import Derived.Lib.LaidTab
import Derived.Lib.LaidU8
import Derived.OpenShut
import Derived.SevenTiedAt
import Derived.Deep.DeepHandedRow
import Derived.Deep.DeepWitnessRowRef
import Derived.Shelf.Vars
set_option linter.unusedVariables false
set_option linter.unusedSimpArgs false
set_option maxRecDepth 100000
set_option maxHeartbeats 4000000
namespace Go.Abs
open Go.Proofs Go.Wire Go.RowKit Go.Jr
theorem r13 (d : Disk) (h : Right d) : Spec Tryz.prog 45 [dV d] (fun r => r = .str (logD d)) := by
 refine Spec.of_awlS hf45 okf45 (by simp) fun S hS => ?_
 obtain ⟨secs, pend, left, down⟩ := d
 have hhi : secs.length ≤ 512 := h.hi
 have hlo : 1 ≤ secs.length := h.lo
 have hse : ∀ s ∈ secs, s.length = 16 := h.se
 have hlen : ∀ j, (((secs.drop 2).take j).flatten).length ≤ 16 * 512 := by
   intro j
   rw [pD _ fun x hx => hse x (List.mem_of_mem_drop (List.mem_of_mem_take hx)), List.length_take, List.length_drop]
   omega
 unfold logD at hS
 simp only [zD, Qs, Nat.reduceBEq, uu f45.eq_1, uu f45b12.eq_1, vv f45r13.eq_1, uu f45b14.eq_1, uu f45b15.eq_1, vv f45r16.eq_1, uu f45b17.eq_1, vv f45r18.eq_1, uu f45b19.eq_1]
 rw [zlx]
 refine zU (fun j : Nat => [(1, .k (.ptr 1 0)), (3, .str ((secs.drop 2).take j).flatten), (4, .int .i64 (2 + j : Nat))]) (fun _ => [(1, yN secs pend left down)]) (fun j => j ≤ secs.length - 2) (fun j => secs.length - j) 0 rfl rfl (Nat.zero_le _) ?_
 intro j hj
 by_cases hlt : 2 + j < secs.length
 · have c1 : ((2 + j : Nat) : Int) < secs.length := by omega
   have c4 : IntKind.i64.wrap (((2 + j : Nat) : Int) + 1) = ((2 + (j + 1) : Nat) : Int) := by rw [wrap_in (by omega) (by omega)]; omega
   have hz : ((secs.drop 2).take j).flatten ++ secs[2 + j] = ((secs.drop 2).take (j + 1)).flatten := by
     rw [List.take_add_one, List.getElem?_drop, List.getElem?_eq_getElem hlt, List.flatten_append]; simp
   have hl := hlen j
   have hs := hse _ (List.getElem_mem hlt)
   simp only [c1, c4, strs_len, zX hlt, hz, Qs, if_true, if_false, Nat.reduceAdd, Nat.reduceLeDiff, Nat.reduceBEq, vv f45r3.eq_1, vv f45r4.eq_1, uu f45b5.eq_1, uu f45b6.eq_1, uu f45b7.eq_1, vv f45r8.eq_1, uu f45b9.eq_1, uu f45b10.eq_1]
   exact ⟨by omega, Next.intro (j + 1) rfl rfl (by omega) (by omega)⟩
 · have c1 : ¬ ((2 + j : Nat) : Int) < secs.length := by omega
   simp only [c1, strs_len, Qs, if_true, if_false, List.nodup_nil, Nat.reduceAdd, Nat.reduceLeDiff, Nat.reduceBEq, vv f45r1.eq_1, uu f45b2.eq_1, uu f45b7.eq_1, vv f45r8.eq_1, uu f45b9.eq_1, uu f45b10.eq_1]
   rw [List.take_of_length_le (by rw [List.length_drop]; omega)]
   exact hS
def obN : Nat → OS
 | 0 => [(2, .var 25 [.c (.list 0 (some true) []), .c (.list 0 (some true) []), .c (.int .i64 0), .c (.bool false)]), (4, .var 25 [.c (.list 0 (some true) []), .c (.list 0 (some true) []), .c (.int .i64 (-1)), .c (.bool false)])]
 | i + 1 => [(2, .var 25 [.c (.list 0 (some true) []), .c (.list 0 (some true) []), .c (.int .i64 0), .c (.bool false)]), (4, .var 25 [.own 23, .c (.list 0 (some true) []), .c (.int .i64 (-1)), .c (.bool false)]), (23, .arr 9 1 (some false) (strs (List.replicate (i + 1) (yM 16))))]
theorem r16 (n : Nat) (h0 : 1 ≤ n) (h : n ≤ 512) : Spec Tryz.prog 33 [.int .i64 n] (fun r => r = zI (yT n, 0)) := by
 refine Spec.of_awlP hf33 okf33 (by simp) fun S hS => ?_
 have l0 : ¬ (n : Int) < 1 := by omega
 have l1 : ¬ (n : Int) > 512 := by omega
 simp only [l0, l1, Qs, if_true, if_false, bne_iff_ne, ne_eq, Int.reduceNeg, List.append_nil, Nat.reduceAdd, Nat.reduceEqDiff, Nat.reduceLeDiff, Nat.reduceBEq, uu f33.eq_1, uu f33b12.eq_1, vv f33r13.eq_1, uu f33b14.eq_1, uu f33b15.eq_1, vv f33r16.eq_1, uu f33b17.eq_1, uu f33b20.eq_1, vv f33r21.eq_1, uu f33b22.eq_1, uu f33b23.eq_1, vv f33r24.eq_1, uu f33b25.eq_1]
 rw [zlq]
 refine zU (fun i : Nat => [(0, .int .i64 n), (2, .k (.ptr 2 0)), (4, .k (.ptr 4 0)), (5, .int .i64 i)]) obN (fun i => i ≤ n) (fun i => n - i) 0 rfl rfl (Nat.zero_le _) ?_
 intro i hi
 by_cases hlt : i < n
 · have c1 : (i : Int) < n := by omega
   have c4 : IntKind.i64.wrap ((i : Int) + 1) = (i : Int) + 1 := wrap_in (by omega) (by omega)
   cases i with
   | zero =>
     have c0 : (0 : Int) < n := by omega
     simp only [obN, c0, Qs, if_true, if_false, Int.reduceNeg, Nat.reduceAdd, Nat.reduceLeDiff, Nat.reduceBEq, vv f33r3.eq_1, vv f33r4.eq_1, uu f33b5.eq_1, uu f33b6.eq_1, uu f33b7.eq_1, vv f33r8.eq_1, uu f33b9.eq_1, uu f33b10.eq_1]
     refine ⟨rfl, _, r32 16 (by decide), .inl rfl, ?_⟩
     simp only [c0, Qs, kP, kQ, kU, kV, zeB, zeD, if_true, reduceCtorEq, forall_eq, bne_iff_ne, ne_eq, Int.reduceNeg, List.mem_cons, Nat.reduceAdd, Nat.reduceMul, Nat.reduceEqDiff, Nat.reduceLeDiff, Nat.reduceLT, Nat.reduceBEq, Int.reduceAdd, List.not_mem_nil]
     exact Next.intro 1 rfl rfl (by omega) (by omega)
   | succ i =>
     simp only [obN, c1, c4, Qs, if_true, if_false, Int.reduceNeg, Nat.reduceAdd, Nat.reduceLeDiff, Nat.reduceBEq, vv f33r3.eq_1, vv f33r4.eq_1, uu f33b5.eq_1, uu f33b6.eq_1, uu f33b7.eq_1, vv f33r8.eq_1, uu f33b9.eq_1, uu f33b10.eq_1]
     refine ⟨rfl, _, r32 16 (by decide), .inl rfl, ?_⟩
     simp only [strs_len, List.length_replicate, c1, c4, Qs, kP, kQ, kU, kV, rN, rO, if_true, if_false, reduceCtorEq, forall_eq, Int.reduceNeg, List.mem_cons, Nat.reduceAdd, Nat.reduceEqDiff, Nat.reduceLeDiff, Nat.reduceLT, Nat.reduceBEq, List.not_mem_nil]
     refine ⟨by omega, by omega, Next.intro (i + 2) rfl ?_ (by omega) (by omega)⟩
     have e : strs (yM 16 :: List.replicate i (yM 16)) ++ [[C.str (yM 16)]] = strs (List.replicate (i + 1 + 1) (yM 16)) := by
       have := uC (List.replicate (i + 1) (yM 16)) (yM 16)
       rw [← List.replicate_succ'] at this
       exact this
     rw [e]
     rfl
 · obtain rfl : i = n := by omega
   have c1 : ¬ (i : Int) < i := by omega
   cases i with
   | zero => omega
   | succ i =>
     simp only [obN, c1, zA, Qs, if_true, Int.reduceNeg, List.append_nil, List.nodup_nil, List.nodup_cons, Nat.reduceAdd, Nat.reduceLT, Nat.reduceBEq, List.not_mem_nil, vv f33r1.eq_1, uu f33b2.eq_1, uu f33b7.eq_1, vv f33r8.eq_1, uu f33b9.eq_1, uu f33b10.eq_1]
     exact vO hS rfl rfl (wK _ _) (yJ []) rfl
theorem r14 (n : Nat) (h : n < 100000000) : Spec Tryz.prog 64 [.int .i64 n] (fun r => r = .str (hdr n)) := by
 refine Spec.of_awlS hf64 okf64 (by simp) fun S hS => ?_
 simp only [Qs, uu f64.eq_1, uu f64b16.eq_1, vv f64r17.eq_1, uu f64b18.eq_1, uu f64b19.eq_1, vv f64r20.eq_1, uu f64b21.eq_1, vv f64r22.eq_1, uu f64b23.eq_1]
 rw [zlD]
 refine zU (fun k : Nat => [(0, .int .i64 (n / 10 ^ k : Nat)), (3, .str (dig k n)), (4, .int .i64 k)]) (fun _ => []) (fun k => k ≤ 8) (fun k => 8 - k) 0 (by simp [keepT, lookT, dig]) rfl (by decide) ?_
 intro k hk
 by_cases hlt : k < 8
 · have c1 : (k : Int) < 8 := by omega
   have c4 : IntKind.i64.wrap ((k : Int) + 1) = (k : Int) + 1 := wrap_in (by omega) (by omega)
   have hd := nT k n
   have hm : n / 10 ^ (k + 1) = n / 10 ^ k / 10 := by rw [Nat.div_div_eq_div_mul, Nat.pow_succ]
   have hle : n / 10 ^ k ≤ n := Nat.div_le_self _ _
   generalize n / 10 ^ k = m at hd hm hle ⊢
   simp only [c1, c4, Qs, sI, rK, if_true, ne_eq, Nat.reduceAdd, Nat.reduceBEq, Int.reduceEq, vv f64r3.eq_1, vv f64r4.eq_1, vv f64r5.eq_1, uu f64b6.eq_1, vv f64r7.eq_1, uu f64b8.eq_1, uu f64b9.eq_1, uu f64b10.eq_1, uu f64b11.eq_1, vv f64r12.eq_1, uu f64b13.eq_1, uu f64b14.eq_1]
   have ht : (m : Int).tmod 10 = ((m % 10 : Nat) : Int) := by rw [Int.tmod_eq_emod_of_nonneg (by omega)]; omega
   have hq : (m : Int).tdiv 10 = ((m / 10 : Nat) : Int) := by rw [Int.tdiv_eq_ediv_of_nonneg (by omega)]; omega
   have w1 : IntKind.i64.wrap (((m % 10 : Nat) : Int) + 1) = ((m % 10 + 1 : Nat) : Int) := by rw [wrap_in (by omega) (by omega)]; omega
   have w2 : IntKind.i64.wrap ((m / 10 : Nat) : Int) = ((m / 10 : Nat) : Int) := wrap_in (by omega) (by omega)
   rw [ht, hq, w1, w2, Int.toNat_natCast, Int.toNat_natCast]
   have hj : m % 10 < 10 := Nat.mod_lt _ (by decide)
   generalize m % 10 = j at hj hd ⊢
   have hc : List.drop j (List.take (j + 1) [48, 49, 50, 51, 52, 53, 54, 55, 56, 57]) = [UInt8.ofNat (48 + j)] := by
     have : ∀ j, j < 10 → List.drop j (List.take (j + 1) ([48, 49, 50, 51, 52, 53, 54, 55, 56, 57] : Txt)) = [UInt8.ofNat (48 + j)] := by decide
     exact this j hj
   rw [hc, ← hm, show [UInt8.ofNat (48 + j)] ++ dig k n = dig (k + 1) n from hd.symm]
   exact ⟨⟨by omega, by omega, by omega⟩, by rw [wF]; simp only [List.length_singleton]; omega, Next.intro (k + 1) rfl rfl (by omega) (by omega)⟩
 · obtain rfl : k = 8 := by omega
   have c1 : ¬ ((8 : Nat) : Int) < 8 := by omega
   simp only [c1, wF, Qs, if_true, List.nodup_nil, Nat.reduceAdd, Nat.reduceLeDiff, Nat.reduceBEq, Int.reduceLT, vv f64r1.eq_1, uu f64b2.eq_1, uu f64b11.eq_1, vv f64r12.eq_1, uu f64b13.eq_1, uu f64b14.eq_1]
   first | exact hS | exact ⟨by decide, hS⟩
end Go.Abs
set_option maxRecDepth 100000
set_option maxHeartbeats 4000000
namespace Go.Abs
open Go.Proofs Go.Wire Go.RowKit Go.Jr
def sS (r : Option Nat) : Int := match r with
 | some n => n
 | none => -1
theorem r15 (s : Txt) (h : s.length = 16) : Spec Tryz.prog 46 [.str s] (fun r => r = .int .i64 (sS (yF s))) := by
 refine Spec.of_awlS hf46 okf46 (by simp) fun S hS => ?_
 unfold yF at hS
 simp only [h, Qs, if_true, Nat.reduceBEq, Int.reduceBNe, uu f46.eq_1, uu f46b18.eq_1, vv f46r19.eq_1, uu f46b20.eq_1, uu f46b21.eq_1, vv f46r22.eq_1, uu f46b23.eq_1, uu f46b26.eq_1, vv f46r27.eq_1, uu f46b28.eq_1, uu f46b29.eq_1, vv f46r30.eq_1, uu f46b31.eq_1]
 rw [zly]
 refine zU (fun i : Nat => [(0, .str s), (3, .int .i64 (xL (s.take i) : Nat)), (4, .int .i64 i)]) (fun _ => [])
   (fun i => i ≤ 8 ∧ (s.take i).all xA = true ∧ s.take i = (s.drop 8).take i) (fun i => 8 - i) 0 rfl rfl ⟨by decide, rfl, rfl⟩ ?_
 rintro i ⟨hi, hd, he⟩
 by_cases hlt : i < 8
 · have c1 : (i : Int) < 8 := by omega
   have c2 : (i : Int) < s.length := by omega
   have c3 : IntKind.i64.wrap ((i : Int) + 8) = ((i + 8 : Nat) : Int) := by rw [wrap_in (by omega) (by omega)]; omega
   have c4 : IntKind.i64.wrap ((i : Int) + 1) = (i : Int) + 1 := wrap_in (by omega) (by omega)
   have hts := iC (s := s) (i := i) (by omega)
   have htd := iC (s := s.drop 8) (i := i) (by rw [List.length_drop]; omega)
   have hde : (s.drop 8).getD i 0 = s.getD (i + 8) 0 := by
     rw [List.getD_eq_getElem?_getD, List.getD_eq_getElem?_getD, List.getElem?_drop, Nat.add_comm 8 i]
   rw [hde] at htd
   have hval : (xL (s.take i)) < 10 ^ i := iB i _ (by rw [List.length_take]; omega) hd
   have hval8 : xL (s.take i) < 100000000 := Nat.lt_of_lt_of_le hval (Nat.pow_le_pow_right (n := 10) (by decide) hi)
   have hmem : xA (s.getD i 0) = false → (s.take 8).all xA = false := by
     intro hc
     rw [List.all_eq_false]
     refine ⟨s.getD i 0, ?_, by rw [hc]; simp⟩
     rw [List.getD_eq_getElem?_getD, List.getElem?_eq_getElem (show i < s.length by omega), Option.getD_some, List.mem_take_iff_getElem]
     exact ⟨i, by omega, rfl⟩
   have hdif : s.getD i 0 ≠ s.getD (i + 8) 0 → s.take 8 ≠ s.drop 8 := by
     intro hne e
     refine hne ?_
     have e1 : (s.take 8).getD i 0 = s.getD i 0 := by
       rw [List.getD_eq_getElem?_getD, List.getD_eq_getElem?_getD, List.getElem?_take_of_lt hlt]
     rw [← e1, e, hde]
   simp only [c1, c2, c3, c4, h, Qs, rH, zkw, zkz, rM, if_true, if_false, Int.reduceNeg, List.nodup_nil, Nat.reduceBEq, zkX, vv f46r3.eq_1, vv f46r4.eq_1, vv f46r5.eq_1, uu f46b6.eq_1, uu f46b7.eq_1, vv f46r8.eq_1, uu f46b9.eq_1, uu f46b10.eq_1, uu f46b11.eq_1, uu f46b12.eq_1, uu f46b13.eq_1, vv f46r14.eq_1, uu f46b15.eq_1, uu f46b16.eq_1]
   generalize hcc : s.getD i 0 = c at hts hmem hdif ⊢
   generalize hee : s.getD (i + 8) 0 = e at htd hdif ⊢
   generalize hm : xL (s.take i) = m at hval8 ⊢
   have hbad : (xA c = false ∨ c ≠ e) → S (V.k (K.c (C.int IntKind.i64 (-1)))) := by
     intro hc
     rw [if_neg (fun h => hc.elim (fun hc => by rw [hmem hc] at h; exact absurd h.2 (by simp)) fun hc => hdif hc h.1)] at hS
     exact hS
   refine ⟨by omega, fun g => hbad (.inl ?_), fun g1 => ⟨by omega, fun g => hbad (.inl ?_), fun g2 => ⟨by omega, by omega, fun g => hbad (.inr ?_), fun g3 => ⟨by omega, ?_⟩⟩⟩⟩
   · simp [xA]; omega
   · simp [xA]; omega
   · rintro rfl; exact g rfl
   · have hce : c = e := UInt8.toNat_inj.1 (by omega)
     have w2 : IntKind.i64.wrap (c.toNat : Int) = (c.toNat : Int) := wrap_in (by omega) (by omega)
     have w3 : IntKind.i64.wrap (10 * (m : Int)) = 10 * (m : Int) := wrap_in (by omega) (by omega)
     have w4 : IntKind.i64.wrap (10 * (m : Int) + (c.toNat : Int)) = 10 * (m : Int) + (c.toNat : Int) := wrap_in (by omega) (by omega)
     have w5 : IntKind.i64.wrap (10 * (m : Int) + (c.toNat : Int) - 48) = ((m * 10 + (c.toNat - 48) : Nat) : Int) := by rw [wrap_in (by omega) (by omega)]; omega
     have ev : m * 10 + (c.toNat - 48) = xL (s.take (i + 1)) := by rw [hts, iA, hm]
     have hd2 : (s.take (i + 1)).all xA = true := by
       rw [hts, List.all_append, hd]
       simp [xA]
       omega
     rw [w3, w2, w4, w5, ev]
     exact Next.intro (i + 1) rfl rfl ⟨by omega, hd2, by rw [hts, htd, he, hce]⟩ (by omega)
 · obtain rfl : i = 8 := by omega
   have c1 : ¬ ((8 : Nat) : Int) < 8 := by omega
   simp only [c1, Qs, if_true, List.nodup_nil, Nat.reduceBEq, Int.reduceLT, vv f46r1.eq_1, uu f46b2.eq_1, uu f46b13.eq_1, vv f46r14.eq_1, uu f46b15.eq_1, uu f46b16.eq_1]
   rw [List.take_of_length_le (l := s.drop 8) (by rw [List.length_drop]; omega)] at he
   rw [if_pos ⟨he, hd⟩] at hS
   exact hS
theorem zhZ {a b : Option Nat} {c : Int} {n : Nat} (h : xS a b = some (c, n)) : c = 0 ∨ c = 1 := by
 unfold xS at h
 split at h
 · cases h
 · cases h; exact .inl rfl
 · cases h; exact .inr rfl
 · split at h
   · cases h; exact .inr rfl
   · cases h; exact .inl rfl
theorem iE {d : Disk} (h : Right d) : (logD d).length ≤ 16 * (d.secs.length - 2) := by
 rw [logD, pD _ fun x hx => h.se x (List.mem_of_mem_drop hx), List.length_drop]
 exact Nat.le_refl _
theorem iF (d : Disk) (h : Right d) : (readJ d).1.bytes.length ≤ 8192 ∧ ((readJ d).2 = 0 → ((readJ d).1.cur = 0 ∨ (readJ d).1.cur = 1) ∧ d.down = false ∧ d.pend = [] ∧ 2 < d.secs.length) := by
 have hl := iE h
 have hhi := h.hi
 unfold readJ
 by_cases hr : yV d = 0
 · rw [if_neg (by simp [hr])]
   obtain ⟨e1, e2⟩ := iD hr
   by_cases h2 : d.secs.length ≤ 2
   · rw [if_pos h2]; exact ⟨by simp, by simp⟩
   · rw [if_neg h2]
     split
     · exact ⟨by simp, by simp⟩
     · rename_i c n hc
       split
       · exact ⟨by simp, by simp⟩
       · split
         · exact ⟨by simp, by simp⟩
         · split
           · exact ⟨by simp, by simp⟩
           · refine ⟨by simp only [List.length_take]; omega, fun _ => ⟨zhZ hc, e1, e2, by omega⟩⟩
 · rw [if_pos hr]
   exact ⟨by simp, fun h => absurd h hr⟩
theorem nY {d : Disk} (h : Right d) (hu : d.down = false) : Right (flushD d).1 ∧ ((flushD d).2 = 0 → (flushD d).1.down = false ∧ (flushD d).1.pend = [] ∧ (flushD d).1.secs.length = d.secs.length) := by
 have hl0 := h.l0
 have hl1 := h.l1
 have hpp : ∀ (ws : List Wr), (∀ w ∈ ws, w ∈ d.pend) → ∀ s ∈ zN d.secs ws, s.length = 16 := fun ws hw => rV _ _ h.se fun w hx => (h.wr w (hw w hx)).2.2
 by_cases hk : 0 ≤ d.left ∧ d.left < d.pend.length
 · rw [jZ hu hk]
   have hl : (zN d.secs (d.pend.take d.left.toNat)).length = d.secs.length := uD _ _
   have hp := hpp (d.pend.take d.left.toNat) fun w hw => List.mem_of_mem_take hw
   have hkl : d.left.toNat < d.pend.length := by omega
   have hgd : d.pend.getD d.left.toNat default = d.pend[d.left.toNat] := by rw [List.getD_eq_getElem?_getD, List.getElem?_eq_getElem hkl]; rfl
   obtain ⟨w0, w1, w2⟩ := h.wr _ (List.getElem_mem hkl)
   refine ⟨⟨by simp only [List.length_set]; rw [hl]; exact h.lo, by simp only [List.length_set]; rw [hl]; exact h.hi, by simp, by simp, by simp, fun _ => ⟨rfl, rfl⟩, ?_, fun w hw => absurd hw (by simp)⟩, fun e => absurd e (by simp)⟩
   refine rW hp ?_
   rw [hgd, List.length_append, List.length_take, List.length_drop, w2, zhA hp (by omega)]
   decide
 · rw [pA hu hk]
   have hl : (zN d.secs d.pend).length = d.secs.length := uD _ _
   refine ⟨⟨by rw [hl]; exact h.lo, by rw [hl]; exact h.hi, by simp, ?_, ?_, fun e => absurd e (by simp), hpp _ fun _ h => h, fun w hw => absurd hw (by simp)⟩, fun _ => ⟨rfl, rfl, hl⟩⟩
   · show -1 ≤ (if 0 ≤ d.left then d.left - d.pend.length else -1 : Int)
     split <;> omega
   · show (if 0 ≤ d.left then d.left - d.pend.length else -1 : Int) ≤ 512
     split <;> omega
theorem zm5 {all : Txt} {j : Nat} (h : 16 * j < all.length) : List.drop ((j : Int) * 16).toNat (List.take (if (all.length : Int) < ((j : Int) + 1) * 16 then (all.length : Int) else ((j : Int) + 1) * 16).toNat all) = (all.drop (16 * j)).take 16 := by
 rw [show ((j : Int) * 16).toNat = 16 * j by omega]
 split
 · rw [Int.toNat_natCast, List.take_length, List.take_of_length_le (by rw [List.length_drop]; omega)]
 · rw [show (((j : Int) + 1) * 16).toNat = 16 * j + 16 by omega, List.drop_take, show 16 * j + 16 - 16 * j = 16 by omega]
theorem b11 (d : Disk) (h : Right d) (s : Txt) (hs : s.length ≤ 1000000000) : Spec Tryz.prog 39 [dV d, .str s] (fun r => r = zI (appendJ d s)) := by
 refine Spec.of_awlP hf39 okf39 (by simp) fun S hS => ?_
 have c27 := b27 d h
 have c12 := w11 s (by omega)
 unfold appendJ at hS
 obtain ⟨hb, hrd⟩ := iF d h
 generalize readJ d = x at c27 hS hb hrd
 obtain ⟨⟨xl, xb, xc⟩, xe⟩ := x
 have hse := h.se
 have hhi := h.hi
 obtain ⟨secs, pend, left, down⟩ := d
 simp only [dV, zD, y7] at *
 simp only [zA, zB, Qs, if_true, bne_iff_ne, ne_eq, Nat.reduceAdd, Nat.reduceEqDiff, Nat.reduceBEq, uu f39.eq_1, vv f39r45.eq_1, uu f39b46.eq_1, vv f39r47.eq_1, uu f39b48.eq_1]
 refine zT c27 ?_
 simp only [zA, zB, Qs, if_false, bne_iff_ne, ne_eq, List.append_nil, Nat.reduceAdd, Nat.reduceMul, Nat.reduceEqDiff, Nat.reduceLeDiff, Nat.reduceBEq, vv f39r43.eq_1, uu f39b44.eq_1]
 refine ⟨rfl, _, c12, .inl rfl, ?_⟩
 have hws := zho (s := s) (by omega)
 have b1 : xb.length + (wS s).length ≤ 9223372036854775807 := by omega
 simp only [b1, zA, zB, Qs, sI, if_true, if_false, ne_eq, List.append_nil, List.nodup_nil, Nat.reduceAdd, Nat.reduceLeDiff, Nat.reduceLT, Nat.reduceBEq, Int.reduceEq, uu f39b22.eq_1, vv f39r23.eq_1, uu f39b24.eq_1, uu f39b25.eq_1, vv f39r26.eq_1, uu f39b27.eq_1, vv f39r28.eq_1, uu f39b29.eq_1, vv f39r30.eq_1, uu f39b31.eq_1, uu f39b32.eq_1, vv f39r33.eq_1, uu f39b34.eq_1, uu f39b35.eq_1, vv f39r36.eq_1, uu f39b37.eq_1, uu f39b38.eq_1, vv f39r39.eq_1, uu f39b40.eq_1, uu f39b41.eq_1, uu f39b42.eq_1]
 by_cases he : xe = 0
 · subst he
   obtain ⟨hc, hdn, hpd, h2⟩ := hrd rfl
   subst hdn hpd
   rw [if_neg (by simp)] at hS
   by_cases h1 : (s.length : Int) > 2000
   · rw [if_pos (show s.length > 2000 by omega)] at hS
     simp only [h1, zA, zB, Qs, forall_const, Int.reduceBNe]
     exact zS hS (secs := []) (pend := []) rfl rfl rfl
   · rw [if_neg (show ¬ s.length > 2000 by omega)] at hS
     have w2 : IntKind.i64.wrap ((secs.length : Int) - 2) = (secs.length : Int) - 2 := wrap_in (by omega) (by omega)
     have w3 : IntKind.i64.wrap (((secs.length : Int) - 2) * 16) = ((secs.length : Int) - 2) * 16 := wrap_in (by omega) (by omega)
     have w4 : IntKind.i64.wrap ((xb.length : Int).tdiv 16) = ((xb.length / 16 : Nat) : Int) := by
       rw [Int.tdiv_eq_ediv_of_nonneg (by omega), wrap_in (by omega) (by omega)]; omega
     simp only [h1, w2, w3, w4, strs_len, zA, zB, Qs, forall_const, Int.reduceBNe]
     generalize hall : xb ++ wS s = all at hS ⊢
     have hal : all.length ≤ 100000 := by rw [← hall, List.length_append]; omega
     have hat : xb.length / 16 ≤ 512 := by omega
     generalize xb.length / 16 = at0 at hS hat ⊢
     refine ⟨fun g => ?_, fun g => ⟨fun g2 => ?_, fun g2 => ?_⟩⟩
     · rw [if_pos (.inl (by omega))] at hS
       exact zS hS (secs := []) (pend := []) rfl rfl rfl
     · rw [if_pos (.inr (by omega))] at hS
       exact zS hS (secs := []) (pend := []) rfl rfl rfl
     · rw [if_neg (by omega)] at hS
       have hfit : all.length ≤ (secs.length - 2) * 16 := by omega
       rw [zlu]
       refine zU (fun x : Nat × Disk => [(2, .k (.ptr 2 0)), (4, .k (.ptr 4 0)), (6, .k (.ptr 6 0)), (8, .str all), (9, .int .i64 x.1)])
         (fun x => [(2, yN x.2.secs x.2.pend x.2.left x.2.down), (4, .var 25 [.c (.list 0 (some true) []), .c (.list 0 (some true) []), .c (.int .i64 0), .c (.bool false)]), (6, .var 72 [.c (lstC 1 (strs xl)), .c (.str xb), .c (.int .i64 xc)])])
         (fun x => Right x.2 ∧ x.2.down = false ∧ x.2.secs.length = secs.length ∧ x.2.pend.length ≤ x.1 ∧ x.1 ≤ 512 + all.length ∧ ∃ k, all.length ≤ 16 * (x.1 + k) ∧ xB all k x.1 x.2 = xB all all.length at0 ⟨secs, [], left, false⟩)
         (fun x => all.length + 1 - x.1) (at0, ⟨secs, [], left, false⟩) rfl rfl ⟨h, rfl, rfl, by simp, by omega, all.length, by omega, rfl⟩ ?_
       rintro ⟨j, secs2, pend2, left2, down2⟩ ⟨g1, g2, g3, g4, g5, k, g6, g7⟩
       simp only [] at g2 g3 g4 g5 g6 g7
       subst g2
       have w5 : IntKind.i64.wrap ((j : Int) * 16) = (j : Int) * 16 := wrap_in (by omega) (by omega)
       by_cases hlt : 16 * j < all.length
       · have c1 : (j : Int) * 16 < all.length := by omega
         have w6 : IntKind.i64.wrap (2 + (j : Int)) = 2 + (j : Int) := wrap_in (by omega) (by omega)
         have w7 : IntKind.i64.wrap ((j : Int) + 1) = (j : Int) + 1 := wrap_in (by omega) (by omega)
         have w8 : IntKind.i64.wrap (((j : Int) + 1) * 16) = ((j : Int) + 1) * 16 := wrap_in (by omega) (by omega)
         simp only [w5, w6, w7, w8, c1, Qs, rJ, oZ, zkA, zkN, zkO, zkP, zkQ, zkR, if_true, if_false, Nat.reduceAdd, Nat.reduceBEq, vv f39r13.eq_1, vv f39r14o0.eq_1, vv f39r14o1.eq_1, vv f39r14o2.eq_1, vv f39r14o3.eq_1, vv f39r14o4.eq_1, vv f39r14o5.eq_1, vv f39r14o6.eq_1, vv f39r14o7.eq_1, vv f39r14o8.eq_1, vv f39r14o9.eq_1, vv f39r14o10.eq_1, vv f39r14o11.eq_1, vv f39r14o12.eq_1, vv f39r14o13.eq_1, vv f39r14o14.eq_1, vv f39r14o15.eq_1, vv f39r14o16.eq_1, vv f39r14o17.eq_1, zlt, uu f39b15.eq_1, uu f39b16.eq_1, uu f39b17.eq_1, vv f39r18.eq_1, uu f39b19.eq_1, uu f39b20.eq_1]
         obtain ⟨k, rfl⟩ : ∃ k', k = k' + 1 := ⟨k - 1, by omega⟩
         rw [xB, if_pos hlt] at g7
         have hch : ((all.drop (16 * j)).take 16).length ≤ 16 := by rw [List.length_take]; omega
         rw [zm5 hlt]
         generalize (all.drop (16 * j)).take 16 = ch at g7 hch ⊢
         have hw := xO (d := ⟨secs2, pend2, left2, false⟩) (i := 2 + (j : Int)) (s := ch) rfl (by omega) (by show 2 + (j : Int) < secs2.length; omega) hch (by show pend2.length < 512; omega)
         have hp := wL (i := 2 + (j : Int)) (t := pad ch) g1 (by omega) (by omega) (vM hch) (by omega)
         rw [hw] at g7
         refine ⟨⟨by omega, by split <;> omega, by split <;> omega⟩, uE (b28 _ g1 (2 + (j : Int)) ch) ?_ rfl (by simp [zH, V.norm, C.normRow, dV, zD, z6, xK, zA, zB]) rfl⟩
         rw [hw]
         simp only [zI, dV, zD, zA, zB, w7, Qs, if_true, List.append_nil, Nat.reduceAdd, Nat.reduceBEq]
         exact Next.intro (j + 1, ⟨secs2, pend2 ++ [⟨2 + (j : Int), pad ch⟩], left2, false⟩) rfl rfl ⟨hp, rfl, g3, by show (pend2 ++ [_]).length ≤ j + 1; rw [List.length_append, List.length_singleton]; omega, by show j + 1 ≤ 512 + all.length; omega, k, by show all.length ≤ 16 * (j + 1 + k); omega, g7⟩ (by show all.length + 1 - (j + 1) < all.length + 1 - j; omega)
       · have c1 : ¬ (j : Int) * 16 < all.length := by omega
         have g8 : xB all k j ⟨secs2, pend2, left2, false⟩ = ⟨secs2, pend2, left2, false⟩ := by
           cases k with
           | zero => rfl
           | succ k => rw [xB, if_neg hlt]
         rw [g8] at g7
         rw [← g7] at hS
         have c29 := b29 _ g1
         simp only [dV, zD] at c29
         simp only [w5, c1, zA, zB, Qs, if_true, Nat.reduceAdd, Nat.reduceBEq, vv f39r11.eq_1, uu f39b12.eq_1, uu f39b17.eq_1, vv f39r18.eq_1, uu f39b19.eq_1, uu f39b20.eq_1]
         refine zT c29 ?_
         obtain ⟨hRf, hzf⟩ := nY g1 rfl
         generalize flushD ⟨secs2, pend2, left2, false⟩ = x at hS hRf hzf ⊢
         obtain ⟨⟨s3, p3, l3, d3⟩, e3⟩ := x
         simp only [] at hS hRf hzf
         by_cases hz : e3 = 0
         · subst hz
           obtain ⟨z1, z2, z3⟩ := hzf rfl
           subst z1 z2
           rw [if_neg (by simp)] at hS
           have w9 : IntKind.i64.wrap (1 - xc) = 1 - xc := wrap_in (by omega) (by omega)
           have hhl := x9 all.length
           have hw := xO (d := ⟨s3, [], l3, false⟩) (i := 1 - xc) (s := hdr all.length) rfl (by omega) (by show 1 - xc < s3.length; omega) (by omega) (by simp)
           have hp := wL (i := 1 - xc) (t := pad (hdr all.length)) hRf (by omega) (by omega) (vM (by omega)) (by simp)
           rw [hw] at hS
           simp only [zI, dV, zD, zA, zB, w9, Qs, oZ, if_true, if_false, List.append_nil, Nat.reduceAdd, Nat.reduceMul, Nat.reduceBEq, Int.reduceBNe, vv f39r3o0.eq_1, vv f39r3o1.eq_1, vv f39r3o2.eq_1, vv f39r3o3.eq_1, vv f39r3o4.eq_1, vv f39r3o5.eq_1, vv f39r3o6.eq_1, vv f39r3o7.eq_1, vv f39r3o8.eq_1, vv f39r3o9.eq_1, vv f39r3o10.eq_1, vv f39r3o11.eq_1, zgV, uu f39b4.eq_1, uu f39b7.eq_1, vv f39r8.eq_1, uu f39b9.eq_1, uu f39b10.eq_1]
           refine ⟨rfl, _, s30 all.length (by omega), .inl rfl, ?_⟩
           simp only [zA, zB, w9, Qs, Nat.reduceBEq]
           refine uE (b28 _ hRf (1 - xc) (hdr all.length)) ?_ rfl (by simp [zH, V.norm, C.normRow, dV, zD, z6, xK, zA, zB]) rfl
           rw [hw]
           have c29' := b29 _ hp
           simp only [dV, zD] at c29'
           simp only [zI, dV, zD, zA, zB, w9, Qs, if_true, List.append_nil, Nat.reduceAdd, Nat.reduceBEq, vv f39r1.eq_1, uu f39b2.eq_1]
           refine zT c29' ?_
           simp only [List.nil_append] at hS ⊢
           generalize flushD ⟨s3, [⟨1 - xc, pad (hdr all.length)⟩], l3, false⟩ = y at hS ⊢
           obtain ⟨⟨s4, p4, l4, d4⟩, e4⟩ := y
           simp only [zI, dV, zD, zA, zB, Qs, if_true, List.append_nil, List.nodup_nil, Nat.reduceAdd, Nat.reduceMul, Nat.reduceLT, Nat.reduceBEq]
           exact zS hS (yR _) (yJ _) rfl
         · rw [if_pos hz] at hS
           simp only [zI, dV, zD, hz, zA, zB, Qs, oZ, if_true, if_false, forall_const, List.append_nil, List.nodup_nil, Nat.reduceAdd, Nat.reduceMul, Nat.reduceLT, Nat.reduceBEq, vv f39r3o0.eq_1, vv f39r3o1.eq_1, vv f39r3o2.eq_1, vv f39r3o3.eq_1, vv f39r3o4.eq_1, vv f39r3o5.eq_1, vv f39r3o6.eq_1, vv f39r3o7.eq_1, vv f39r3o8.eq_1, vv f39r3o9.eq_1, vv f39r3o10.eq_1, vv f39r3o11.eq_1, zgV, uu f39b4.eq_1, vv f39r5.eq_1, uu f39b6.eq_1, uu f39b7.eq_1, vv f39r8.eq_1, uu f39b9.eq_1, uu f39b10.eq_1]
           exact zS hS (yR _) (yJ _) rfl
 · rw [if_pos he] at hS
   simp only [he, zA, zB, Qs, forall_const]
   exact zS hS (secs := []) (pend := []) rfl rfl rfl
theorem zm6 {secs : List Txt} (h : Right ⟨secs, [], -1, false⟩) : Right ⟨secs, [], -1, true⟩ := ⟨h.lo, h.hi, h.pe, h.l0, h.l1, fun _ => ⟨rfl, rfl⟩, h.se, h.wr⟩
theorem zm7 {d : Disk} {l : List Txt} {c : Nat} (h : Jr.Inv d l c) {k : Int} (h0 : 0 ≤ k) (h1 : k ≤ 512) : Jr.Inv ⟨d.secs, d.pend, k, d.down⟩ l c :=
 ⟨⟨h.right.lo, h.right.hi, h.right.pe, by show -1 ≤ k; omega, h1, fun e => absurd (h.up.symm.trans e) (by simp), h.right.se, h.right.wr⟩, h.up, h.pe, h.n3, h.len, h.each, h.fit, h.holds, h.c01, h.hd, h.ot⟩
theorem zm8 {n : Nat} (h0 : 1 ≤ n) (h : n ≤ 512) : Right (yT n) := by
 refine ⟨by simp [yT]; omega, by simp [yT]; omega, by simp [yT], by simp [yT], by simp [yT], fun e => absurd e (by simp [yT]), ?_, fun w hw => absurd hw (by simp [yT])⟩
 intro s hs
 rw [(List.mem_replicate.1 hs).2]
 rfl
end Go.Abs
set_option maxRecDepth 100000
set_option maxHeartbeats 4000000
namespace Go.Abs
open Go.Proofs Go.Wire
theorem zm9 {d : Nat} (h : d < 10) : List.drop d (48 :: List.take d [49, 50, 51, 52, 53, 54, 55, 56, 57]) = ([UInt8.ofNat (48 + d)] : Txt) := by
 match d, h with
 | 0, _ => rfl
 | 1, _ => rfl
 | 2, _ => rfl
 | 3, _ => rfl
 | 4, _ => rfl
 | 5, _ => rfl
 | 6, _ => rfl
 | 7, _ => rfl
 | 8, _ => rfl
 | 9, _ => rfl
theorem zna (u : Nat) (out : Txt) : Go.Lib.decDigits u ++ out = if u / 10 = 0 then UInt8.ofNat (48 + u % 10) :: out else Go.Lib.decDigits (u / 10) ++ UInt8.ofNat (48 + u % 10) :: out := by
 by_cases h : u < 10
 · rw [uB h, if_pos (by omega), Nat.mod_eq_of_lt h]; rfl
 · rw [if_neg (by omega), tJ h, List.append_assoc]; rfl
theorem w10 (n : Int) (hn : inI n) : Spec Tryz.prog 92 [.int .i64 n] (fun r => r = .str (wI n)) := by
 refine Spec.of_awlS hf92 okf92 (by simp) fun S hS => ?_
 simp only [Qs, Nat.reduceBEq, uu f92.eq_1, uu f92b26.eq_1, vv f92r27.eq_1, uu f92b28.eq_1, uu f92b29.eq_1, vv f92r30.eq_1, uu f92b31.eq_1, vv f92r32.eq_1, uu f92b33.eq_1, vv f92r34.eq_1, uu f92b35.eq_1]
 rw [zlK]
 refine zU (fun x : Nat × Int × Txt => [(0, .int .i64 n), (3, .str x.2.2), (4, .int .i64 x.2.1), (5, .int .i64 x.1)]) (fun _ => [])
   (fun x => inI x.2.1 ∧ x.2.1.natAbs * 10 ^ x.1 ≤ n.natAbs ∧ x.2.2.length = x.1 + 1 ∧ (if x.1 = 0 then x.2.1 = n ∧ x.2.2 = [59] else Go.Lib.decDigits n.natAbs ++ [59] = if x.2.1.natAbs = 0 then x.2.2 else Go.Lib.decDigits x.2.1.natAbs ++ x.2.2))
   (fun x => x.2.1.natAbs + if x.1 = 0 then 1 else 0) (0, n, [59]) rfl rfl ⟨hn, by simp, rfl, by simp⟩ ?_
 rintro ⟨i, m, out⟩ ⟨hm, hp, hl, hj⟩
 simp only [] at hm hp hl hj
 have h1 := hn.1
 have h2 := hn.2
 by_cases hgo : i = 0 ∨ m ≠ 0
 · have hi18 : i ≤ 18 := by
     rcases hgo with h | h
     · omega
     · by_cases h19 : 19 ≤ i
       · have h3 : 10 ^ 19 ≤ 10 ^ i := Nat.pow_le_pow_right (by omega) h19
         have h4 : 1 * 10 ^ i ≤ m.natAbs * 10 ^ i := Nat.mul_le_mul_right _ (by omega)
         omega
       · omega
   have hj2 : Go.Lib.decDigits n.natAbs ++ [59] = Go.Lib.decDigits m.natAbs ++ out := by
     by_cases h0 : i = 0
     · rw [if_pos h0] at hj; rw [hj.1, hj.2]
     · rw [if_neg h0, if_neg (by omega)] at hj; exact hj
   rw [zna m.natAbs out] at hj2
   have c4 : IntKind.i64.wrap ((i : Int) + 1) = (i : Int) + 1 := wrap_in (by omega) (by omega)
   have hd : m.natAbs % 10 < 10 := by omega
   have e2 : (m.tdiv 10).natAbs = m.natAbs / 10 := by rw [Int.natAbs_tdiv]; rfl
   have hmb := hm
   unfold inI at hmb
   have e3 : IntKind.i64.wrap (m.tdiv 10) = m.tdiv 10 := wrap_in (by omega) (by omega)
   have hnext : ∀ q : Txt, q = UInt8.ofNat (48 + m.natAbs % 10) :: out → inI (m.tdiv 10) ∧ (m.tdiv 10).natAbs * 10 ^ (i + 1) ≤ n.natAbs ∧ q.length = i + 1 + 1 ∧ (if i + 1 = 0 then m.tdiv 10 = n ∧ q = [59] else Go.Lib.decDigits n.natAbs ++ [59] = if (m.tdiv 10).natAbs = 0 then q else Go.Lib.decDigits (m.tdiv 10).natAbs ++ q) := by
     rintro q rfl
     refine ⟨⟨by omega, by omega⟩, ?_, by simp [hl], ?_⟩
     · rw [e2, Nat.pow_succ, Nat.mul_comm (10 ^ i) 10, ← Nat.mul_assoc]
       exact Nat.le_trans (Nat.mul_le_mul_right _ (by omega)) hp
     · rw [if_neg (by omega), e2]; exact hj2
   have hmes : (m.tdiv 10).natAbs + (if i + 1 = 0 then 1 else 0) < m.natAbs + if i = 0 then 1 else 0 := by
     rw [if_neg (by omega), e2]
     by_cases h0 : i = 0
     · rw [if_pos h0]; omega
     · rw [if_neg h0]; omega
   generalize hdd : m.natAbs % 10 = d at hd hj2 hnext
   have hds := zm9 hd
   have c7 : IntKind.i64.wrap ((d : Int) + 1) = ((d + 1 : Nat) : Int) := by rw [wrap_in (by omega) (by omega)]; rfl
   have b1 : (d : Int) ≤ ((d + 1 : Nat) : Int) := by omega
   have b2 : ((d + 1 : Nat) : Int) ≤ 10 := by omega
   have b3 : 1 + out.length ≤ 9223372036854775807 := by omega
   have l1 : ([UInt8.ofNat (48 + d)] : Txt).length = 1 := rfl
   by_cases hq : m.tmod 10 < 0
   · have e1 : m.tmod 10 = -(d : Int) := by
       have := Int.natAbs_tmod m 10
       simp only [Int.reduceAbs] at this
       omega
     have c5 : -(d : Int) < 0 := by omega
     have c6 : IntKind.i64.wrap (0 - -(d : Int)) = d := by rw [show (0 : Int) - -(d : Int) = d by omega]; exact wrap_in (by omega) (by omega)
     by_cases hi0 : i = 0
     · have cgo : ((i : Int) == 0) = true := by simp [hi0]
       simp only [cgo, c4, e1, c5, c6, c7, e3, hds, b1, b2, b3, l1, Qs, sI, rK, o0, if_true, ne_eq, Nat.reduceAdd, Nat.reduceBEq, Int.reduceEq, vv f92r8.eq_1, vv f92r9.eq_1, vv f92r10.eq_1, uu f92b11.eq_1, vv f92r12.eq_1, uu f92b13.eq_1, vv f92r14.eq_1, uu f92b15.eq_1, uu f92b16.eq_1, vv f92r17.eq_1, uu f92b18.eq_1, uu f92b19.eq_1, uu f92b20.eq_1, uu f92b21.eq_1, vv f92r22.eq_1, uu f92b23.eq_1, uu f92b24.eq_1]
       exact Next.intro (i + 1, m.tdiv 10, UInt8.ofNat (48 + d) :: out) rfl rfl (hnext _ rfl) hmes
     · have cgo : ((i : Int) == 0) = false := by simp [hi0]
       have cm : (m != 0) = true := by have := hgo.resolve_left hi0; simp [this]
       simp only [cgo, cm, c4, e1, c5, c6, c7, e3, hds, b1, b2, b3, l1, Qs, sI, rK, o0, if_true, if_false, ne_eq, Nat.reduceAdd, Nat.reduceBEq, Int.reduceEq, vv f92r8.eq_1, vv f92r9.eq_1, vv f92r10.eq_1, uu f92b11.eq_1, vv f92r12.eq_1, uu f92b13.eq_1, vv f92r14.eq_1, uu f92b15.eq_1, uu f92b16.eq_1, vv f92r17.eq_1, uu f92b18.eq_1, uu f92b19.eq_1, uu f92b20.eq_1, uu f92b21.eq_1, vv f92r22.eq_1, uu f92b23.eq_1, uu f92b24.eq_1]
       exact Next.intro (i + 1, m.tdiv 10, UInt8.ofNat (48 + d) :: out) rfl rfl (hnext _ rfl) hmes
   · have e1 : m.tmod 10 = (d : Int) := by
       have := Int.natAbs_tmod m 10
       simp only [Int.reduceAbs] at this
       omega
     have c5 : ¬ (d : Int) < 0 := by omega
     by_cases hi0 : i = 0
     · have cgo : ((i : Int) == 0) = true := by simp [hi0]
       simp only [cgo, c4, e1, c5, c7, e3, hds, b1, b2, b3, l1, Qs, sI, rK, if_true, ne_eq, Nat.reduceAdd, Nat.reduceBEq, Int.reduceEq, vv f92r8.eq_1, vv f92r9.eq_1, vv f92r10.eq_1, uu f92b11.eq_1, vv f92r12.eq_1, uu f92b13.eq_1, vv f92r14.eq_1, uu f92b15.eq_1, uu f92b16.eq_1, vv f92r17.eq_1, uu f92b18.eq_1, uu f92b19.eq_1, uu f92b20.eq_1, uu f92b21.eq_1, vv f92r22.eq_1, uu f92b23.eq_1, uu f92b24.eq_1]
       exact Next.intro (i + 1, m.tdiv 10, UInt8.ofNat (48 + d) :: out) rfl rfl (hnext _ rfl) hmes
     · have cgo : ((i : Int) == 0) = false := by simp [hi0]
       have cm : (m != 0) = true := by have := hgo.resolve_left hi0; simp [this]
       simp only [cgo, cm, c4, e1, c5, c7, e3, hds, b1, b2, b3, l1, Qs, sI, rK, if_true, if_false, ne_eq, Nat.reduceAdd, Nat.reduceBEq, Int.reduceEq, vv f92r8.eq_1, vv f92r9.eq_1, vv f92r10.eq_1, uu f92b11.eq_1, vv f92r12.eq_1, uu f92b13.eq_1, vv f92r14.eq_1, uu f92b15.eq_1, uu f92b16.eq_1, vv f92r17.eq_1, uu f92b18.eq_1, uu f92b19.eq_1, uu f92b20.eq_1, uu f92b21.eq_1, vv f92r22.eq_1, uu f92b23.eq_1, uu f92b24.eq_1]
       exact Next.intro (i + 1, m.tdiv 10, UInt8.ofNat (48 + d) :: out) rfl rfl (hnext _ rfl) hmes
 · have hi0 : ¬ i = 0 := fun h => hgo (.inl h)
   have hm0 : m = 0 := Decidable.byContradiction fun h => hgo (.inr h)
   subst hm0
   rw [if_neg hi0, if_pos (by simp)] at hj
   have cgo : ((i : Int) == 0) = false := by simp [hi0]
   have hp0 : i ≤ 100 ∨ 100 < i := by omega
   have hol : out.length ≤ 1000 := by
     rw [← hj, List.length_append]
     have := nI 18 n.natAbs (by omega)
     simp only [List.length_singleton]; omega
   have b3 : 1 + out.length ≤ 9223372036854775807 := by omega
   have l1 : ([45] : Txt).length = 1 := rfl
   by_cases hn0 : n < 0
   · simp only [cgo, hn0, b3, l1, Qs, if_true, if_false, List.nodup_nil, Nat.reduceBEq, Int.reduceBNe, vv f92r1.eq_1, uu f92b2.eq_1, vv f92r3.eq_1, uu f92b4.eq_1, vv f92r5.eq_1, uu f92b6.eq_1, uu f92b7.eq_1, uu f92b21.eq_1, vv f92r22.eq_1, uu f92b23.eq_1, uu f92b24.eq_1]
     refine fin hS ?_
     rw [wI, Go.Lib.itoa, if_pos hn0, ← hj]; rfl
   · simp only [cgo, hn0, Qs, if_true, if_false, List.nodup_nil, Nat.reduceBEq, Int.reduceBNe, vv f92r1.eq_1, uu f92b2.eq_1, vv f92r3.eq_1, uu f92b4.eq_1, vv f92r5.eq_1, uu f92b6.eq_1, uu f92b7.eq_1, uu f92b21.eq_1, vv f92r22.eq_1, uu f92b23.eq_1, uu f92b24.eq_1]
     refine fin hS ?_
     rw [wI, Go.Lib.itoa, if_neg hn0, ← hj, show n.natAbs = n.toNat by omega]
theorem znb {neg : Bool} {s : Txt} {fr i : Nat} {n : Int} (h : y2 0 (s.drop fr) = some (n, s.drop i)) (h1 : fr ≤ i) (h2 : i ≤ s.length) :
   wT neg (s.drop fr) = if i = fr ∨ i = s.length ∨ s.getD i 0 ≠ 59 ∨ (i > fr + 1 ∧ s.getD fr 0 = 48) then none
     else if neg = true ∧ n = 0 then none else if neg = true then some (n, s.drop (i + 1)) else if n = -9223372036854775808 then none else some (-n, s.drop (i + 1)) := by
 unfold wT
 rw [h, Option.bind_some]
 simp only [List.length_drop, List.drop_eq_nil_iff]
 have e1 : (s.length - i = s.length - fr) = (i = fr) := by apply propext; omega
 have e2 : (s.length ≤ i) = (i = s.length) := by apply propext; omega
 simp only [e1, e2]
 by_cases q1 : i = fr
 · rw [if_pos (.inl q1), if_pos (.inl q1)]
 by_cases q2 : i = s.length
 · rw [if_pos (.inr (.inl q2)), if_pos (.inr (.inl q2))]
 have hi : i < s.length := by omega
 have hf : fr < s.length := by omega
 have hd := jN hi
 have e3 : ((s.drop i).head? ≠ some 59) = (s.getD i 0 ≠ 59) := by rw [hd]; simp
 have e4 : (s.drop fr).head? = some (s.getD fr 0) := by rw [jN hf]; rfl
 have e5 : (s.length - fr - (s.length - i) > 1 ∧ (s.drop fr).head? = some 48) = (i > fr + 1 ∧ s.getD fr 0 = 48) := by
   rw [e4]; apply propext; simp only [Option.some.injEq]; constructor <;> rintro ⟨a, b⟩ <;> exact ⟨by omega, b⟩
 have e6 : (s.drop i).tail = s.drop (i + 1) := by rw [hd]; rfl
 simp only [e3, e5, e6]
theorem znc {n : Int} {s : Txt} {i : Nat} (h : i < s.length) : y2 n (s.drop i) = if 48 ≤ (s.getD i 0).toNat ∧ (s.getD i 0).toNat ≤ 57 then
     (if n < -922337203685477580 ∨ n = -922337203685477580 ∧ ((s.getD i 0).toNat : Int) - 48 > 8 then none else y2 (10 * n - (((s.getD i 0).toNat : Int) - 48)) (s.drop (i + 1)))
   else some (n, s.drop i) := by
 rw [jN h, y2]
theorem zh0 {S : V → Prop} {s : Txt} {fr i : Nat} {n : Int} {ts : TS} (hs : s.length ≤ 1000000000000) (hf : fr ≤ 1) (h1 : fr ≤ i) (h2 : i ≤ s.length) (hn : -9223372036854775808 ≤ n) (hn0 : n ≤ 0)
   (t0 : lookT 0 ts = .str s) (t5 : lookT 5 ts = .int .i64 fr) (t6 : lookT 6 ts = .int .i64 i) (t7 : lookT 7 ts = .int .i64 n)
   (h : y2 0 (s.drop fr) = some (n, s.drop i)) (hS : S (y4 (wT (decide (fr = 1)) (s.drop fr)))) : awl Tryz.prog f93b28 (endK [RX.t 2, RX.t 3, RX.t 4] S) ts [] := by
 rw [znb h h1 h2] at hS
 have w1 : IntKind.i64.wrap ((fr : Int) + 1) = (fr : Int) + 1 := wrap_in (by omega) (by omega)
 have w2 : IntKind.i64.wrap ((i : Int) + 1) = ((i + 1 : Nat) : Int) := by rw [wrap_in (by omega) (by omega)]; rfl
 by_cases q1 : i = fr
 · have c1 : (i : Int) = fr := by omega
   rw [if_pos (.inl q1)] at hS
   simp only [t0, t5, t6, t7, c1, Qs, if_true, BEq.rfl, List.append_nil, List.nodup_nil, Nat.reduceBEq, vv f93r23.eq_1, uu f93b24.eq_1, uu f93b25.eq_1, vv f93r26.eq_1, uu f93b27.eq_1, uu f93b28.eq_1]
   exact hS
 have c1 : ((i : Int) == fr) = false := by simp; omega
 by_cases q2 : i = s.length
 · have c2 : (i : Int) ≥ s.length := by omega
   rw [if_pos (.inr (.inl q2))] at hS
   simp only [t0, t5, t6, t7, c1, c2, Qs, if_true, if_false, List.append_nil, List.nodup_nil, Nat.reduceBEq, vv f93r23.eq_1, uu f93b24.eq_1, uu f93b25.eq_1, vv f93r26.eq_1, uu f93b27.eq_1, uu f93b28.eq_1]
   exact hS
 have c2 : ¬ (i : Int) ≥ s.length := by omega
 have c3 : (i : Int) < s.length := by omega
 have c4 : (fr : Int) < s.length := by omega
 by_cases q3 : s.getD i 0 = 59
 · have c5 : ((s.getD i 0).toNat : Int) = 59 := by rw [q3]; rfl
   by_cases q4 : i > fr + 1 ∧ s.getD fr 0 = 48
   · have c6 : (i : Int) > (fr : Int) + 1 := by omega
     have c7 : ((s.getD fr 0).toNat : Int) = 48 := by rw [q4.2]; rfl
     rw [if_pos (.inr (.inr (.inr q4)))] at hS
     simp only [t0, t5, t6, t7, c1, c2, c3, c4, c5, c6, c7, w1, w2, Qs, if_true, if_false, BEq.rfl, List.append_nil, List.nodup_nil, Nat.reduceBEq, Int.reduceBNe, vv f93r23.eq_1, uu f93b24.eq_1, uu f93b25.eq_1, vv f93r26.eq_1, uu f93b27.eq_1, uu f93b28.eq_1]
     exact hS
   · rw [if_neg (by simp [q1, q2, q3, -List.getD_eq_getElem?_getD]; exact fun h1 h2 => q4 ⟨h1, h2⟩)] at hS
     have b1 : (0 : Int) ≤ ((i + 1 : Nat) : Int) := by omega
     have b2 : ((i + 1 : Nat) : Int) ≤ s.length := by omega
     have e9 : (s.take s.length).drop (i + 1) = s.drop (i + 1) := by rw [List.take_length]
     by_cases q5 : i > fr + 1
     · have c6 : (i : Int) > (fr : Int) + 1 := by omega
       have c7 : (((s.getD fr 0).toNat : Int) == 48) = false := by
         have : (s.getD fr 0).toNat ≠ 48 := fun h => q4 ⟨q5, UInt8.toNat_inj.1 h⟩
         simp only [beq_eq_false_iff_ne, ne_eq]; omega
       simp only [t0, t5, t6, t7, c1, c2, c3, c4, c5, c6, c7, w1, w2, b1, b2, Qs, o0, if_true, if_false, Int.reduceNeg, List.append_nil, List.nodup_nil, Nat.reduceBEq, Int.reduceBNe, vv f93r1.eq_1, uu f93b2.eq_1, vv f93r3.eq_1, uu f93b4.eq_1, uu f93b5.eq_1, vv f93r6.eq_1, uu f93b7.eq_1, uu f93b8.eq_1, vv f93r9.eq_1, uu f93b10.eq_1, uu f93b11.eq_1, vv f93r12.eq_1, uu f93b13.eq_1, uu f93b14.eq_1, vv f93r15.eq_1, uu f93b16.eq_1, uu f93b17.eq_1, vv f93r18.eq_1, uu f93b19.eq_1, uu f93b20.eq_1, vv f93r21.eq_1, uu f93b22.eq_1, uu f93b25.eq_1, vv f93r26.eq_1, uu f93b27.eq_1, uu f93b28.eq_1]
       rw [e9]
       refine ⟨Int.le_refl _, fun f1 => ?_, fun f1 => ?_⟩
       · have ff : fr = 1 := by omega
         refine ⟨fun z => ?_, fun z => ⟨fun _ => ?_, fun f => absurd f1 f⟩⟩
         · rw [if_pos ⟨by simp [ff], z⟩] at hS; exact hS
         · rw [if_neg (fun x => z x.2), if_pos (by simp [ff])] at hS; exact hS
       · have ff : fr ≠ 1 := by omega
         refine ⟨fun f => absurd f f1, fun _ => ⟨fun z => ?_, fun z => ?_⟩⟩
         · rw [if_neg (by simp [ff]), if_neg (by simp [ff]), if_pos z] at hS; exact hS
         · rw [if_neg (by simp [ff]), if_neg (by simp [ff]), if_neg z] at hS
           have hw : IntKind.i64.wrap (0 - n) = -n := by rw [wrap_in (by omega) (by omega)]; omega
           rw [hw]; exact hS
     · have c6 : ¬ (i : Int) > (fr : Int) + 1 := by omega
       simp only [t0, t5, t6, t7, c1, c2, c3, c4, c5, c6, w1, w2, b1, b2, Qs, o0, if_true, if_false, Int.reduceNeg, List.append_nil, List.nodup_nil, Nat.reduceBEq, Int.reduceBNe, vv f93r1.eq_1, uu f93b2.eq_1, vv f93r3.eq_1, uu f93b4.eq_1, uu f93b5.eq_1, vv f93r6.eq_1, uu f93b7.eq_1, uu f93b8.eq_1, vv f93r9.eq_1, uu f93b10.eq_1, uu f93b11.eq_1, vv f93r12.eq_1, uu f93b13.eq_1, uu f93b14.eq_1, vv f93r15.eq_1, uu f93b16.eq_1, uu f93b17.eq_1, vv f93r18.eq_1, uu f93b19.eq_1, uu f93b20.eq_1, vv f93r21.eq_1, uu f93b22.eq_1, uu f93b25.eq_1, vv f93r26.eq_1, uu f93b27.eq_1, uu f93b28.eq_1]
       rw [e9]
       refine ⟨Int.le_refl _, fun f1 => ?_, fun f1 => ?_⟩
       · have ff : fr = 1 := by omega
         refine ⟨fun z => ?_, fun z => ⟨fun _ => ?_, fun f => absurd f1 f⟩⟩
         · rw [if_pos ⟨by simp [ff], z⟩] at hS; exact hS
         · rw [if_neg (fun x => z x.2), if_pos (by simp [ff])] at hS; exact hS
       · have ff : fr ≠ 1 := by omega
         refine ⟨fun f => absurd f f1, fun _ => ⟨fun z => ?_, fun z => ?_⟩⟩
         · rw [if_neg (by simp [ff]), if_neg (by simp [ff]), if_pos z] at hS; exact hS
         · rw [if_neg (by simp [ff]), if_neg (by simp [ff]), if_neg z] at hS
           have hw : IntKind.i64.wrap (0 - n) = -n := by rw [wrap_in (by omega) (by omega)]; omega
           rw [hw]; exact hS
 · have c5 : (((s.getD i 0).toNat : Int) != 59) = true := by
     have : (s.getD i 0).toNat ≠ 59 := fun h => q3 (UInt8.toNat_inj.1 h)
     simp only [bne_iff_ne, ne_eq]; omega
   rw [if_pos (.inr (.inr (.inl q3)))] at hS
   simp only [t0, t5, t6, t7, c1, c2, c3, c5, Qs, if_true, if_false, List.append_nil, List.nodup_nil, Nat.reduceBEq, vv f93r23.eq_1, uu f93b24.eq_1, uu f93b25.eq_1, vv f93r26.eq_1, uu f93b27.eq_1, uu f93b28.eq_1]
   exact hS
theorem zh1 {neg : Bool} {b : Txt} (h : y2 0 b = none) : wT neg b = none := by rw [wT, h]; rfl
theorem w18 (s : Txt) (hs : s.length ≤ 1000000000000) : Spec Tryz.prog 93 [.str s] (fun r => r = y4 (rI s)) := by
 refine Spec.of_awlS hf93 okf93 (by simp) fun S hS => ?_
 rw [← zl5] at hS
 have key : ∀ (fr : Nat) (ts : TS), fr ≤ 1 → fr ≤ s.length → S (y4 (wT (decide (fr = 1)) (s.drop fr))) → keepT ts [0, 5, 6, 7] = [(0, .str s), (5, .int .i64 fr), (6, .int .i64 fr), (7, .int .i64 0)] →
     awl Tryz.prog f93l45 (AE.inBlockL 0 (AE.thenL (awl Tryz.prog f93b28 (endK [RX.t 2, RX.t 3, RX.t 4] S)) (endK [RX.t 2, RX.t 3, RX.t 4] S))) ts [] := by
   intro fr ts h1 h2 hS hts
   rw [zlL]
   refine zU (fun x : Nat × Int => [(0, .str s), (5, .int .i64 fr), (6, .int .i64 x.1), (7, .int .i64 x.2)]) (fun _ => [])
     (fun x => fr ≤ x.1 ∧ x.1 ≤ s.length ∧ -9223372036854775808 ≤ x.2 ∧ x.2 ≤ 0 ∧ y2 x.2 (s.drop x.1) = y2 0 (s.drop fr)) (fun x => s.length - x.1) (fr, 0) hts rfl ⟨by simp, h2, by simp, by simp, rfl⟩ ?_
   rintro ⟨i, n⟩ ⟨g1, g2, g3, g4, g5⟩
   simp only [] at g1 g2 g3 g4 g5
   by_cases hlt : i < s.length
   · have c1 : (i : Int) < s.length := by omega
     rw [znc hlt] at g5
     have hb : (s.getD i 0).toNat < 256 := UInt8.toNat_lt _
     have g6 : ∀ ts, lookT 0 ts = .str s → lookT 5 ts = .int .i64 fr → lookT 6 ts = .int .i64 i → lookT 7 ts = .int .i64 n → ¬ (48 ≤ (s.getD i 0).toNat ∧ (s.getD i 0).toNat ≤ 57) → awl Tryz.prog f93b28 (endK [RX.t 2, RX.t 3, RX.t 4] S) ts [] := by
       intro ts t0 t5 t6 t7 hd
       rw [if_neg hd] at g5
       exact zh0 hs h1 g1 g2 g3 g4 t0 t5 t6 t7 g5.symm hS
     generalize hcd : (s.getD i 0).toNat = c at g5 g6 hb
     by_cases q1 : c ≥ 48
     · have e1 : (c : Int) ≥ 48 := by omega
       by_cases q2 : c ≤ 57
       · have e2 : (c : Int) ≤ 57 := by omega
         rw [if_pos ⟨q1, q2⟩] at g5
         have w0 : IntKind.i64.wrap (c : Int) = c := wrap_in (by omega) (by omega)
         have w1 : IntKind.i64.wrap ((c : Int) - 48) = (c : Int) - 48 := wrap_in (by omega) (by omega)
         by_cases q3 : n < -922337203685477580
         · rw [if_pos (.inl q3)] at g5
           rw [zh1 g5.symm] at hS
           simp only [c1, hcd, e1, e2, q3, w0, w1, Qs, rH, rM, if_true, Int.reduceNeg, List.append_nil, List.nodup_nil, Nat.reduceBEq, vv f93r32.eq_1, uu f93b33.eq_1, uu f93b34.eq_1, vv f93r35.eq_1, uu f93b36.eq_1, uu f93b37.eq_1, vv f93r38.eq_1, uu f93b39.eq_1, uu f93b40.eq_1, uu f93b41.eq_1, vv f93r42.eq_1, uu f93b43.eq_1, uu f93b44.eq_1]
           exact hS
         · by_cases q4 : n = -922337203685477580 ∧ (c : Int) - 48 > 8
           · rw [if_pos (.inr q4)] at g5
             rw [zh1 g5.symm] at hS
             simp only [c1, hcd, e1, e2, q4.1, q4.2, w0, w1, Qs, rH, rM, if_true, if_false, Int.reduceNeg, BEq.rfl, List.append_nil, List.nodup_nil, Nat.reduceBEq, Int.reduceLT, vv f93r32.eq_1, uu f93b33.eq_1, uu f93b34.eq_1, vv f93r35.eq_1, uu f93b36.eq_1, uu f93b37.eq_1, vv f93r38.eq_1, uu f93b39.eq_1, uu f93b40.eq_1, uu f93b41.eq_1, vv f93r42.eq_1, uu f93b43.eq_1, uu f93b44.eq_1]
             exact hS
           · rw [if_neg (fun h => h.elim q3 q4)] at g5
             have w2 : IntKind.i64.wrap (10 * n) = 10 * n := wrap_in (by omega) (by omega)
             have w3 : IntKind.i64.wrap (10 * n - ((c : Int) - 48)) = 10 * n - ((c : Int) - 48) := wrap_in (by omega) (by omega)
             have w4 : IntKind.i64.wrap ((i : Int) + 1) = ((i + 1 : Nat) : Int) := by rw [wrap_in (by omega) (by omega)]; rfl
             by_cases q5 : n = -922337203685477580
             · have q6 : ¬ (c : Int) - 48 > 8 := fun h => q4 ⟨q5, h⟩
               have q7 : (n == -922337203685477580) = true := by simp [q5]
               simp only [c1, hcd, e1, e2, q3, q7, q6, w0, w1, w2, w3, w4, Qs, rH, rM, if_true, if_false, Int.reduceNeg, Nat.reduceBEq, vv f93r29.eq_1, vv f93r30.eq_1, uu f93b31.eq_1, uu f93b34.eq_1, vv f93r35.eq_1, uu f93b36.eq_1, uu f93b37.eq_1, vv f93r38.eq_1, uu f93b39.eq_1, uu f93b40.eq_1, uu f93b41.eq_1, vv f93r42.eq_1, uu f93b43.eq_1, uu f93b44.eq_1]
               exact Next.intro (i + 1, 10 * n - ((c : Int) - 48)) rfl rfl ⟨by simp only []; omega, by simp only []; omega, by simp only []; omega, by simp only []; omega, g5⟩ (by simp only []; omega)
             · have q7 : (n == -922337203685477580) = false := by simp [q5]
               simp only [c1, hcd, e1, e2, q3, q7, w0, w1, w2, w3, w4, Qs, rH, rM, if_true, if_false, Int.reduceNeg, Nat.reduceBEq, vv f93r29.eq_1, vv f93r30.eq_1, uu f93b31.eq_1, uu f93b34.eq_1, vv f93r35.eq_1, uu f93b36.eq_1, uu f93b37.eq_1, vv f93r38.eq_1, uu f93b39.eq_1, uu f93b40.eq_1, uu f93b41.eq_1, vv f93r42.eq_1, uu f93b43.eq_1, uu f93b44.eq_1]
               exact Next.intro (i + 1, 10 * n - ((c : Int) - 48)) rfl rfl ⟨by simp only []; omega, by simp only []; omega, by simp only []; omega, by simp only []; omega, g5⟩ (by simp only []; omega)
       · have e2 : ¬ (c : Int) ≤ 57 := by omega
         simp only [c1, hcd, e1, e2, Qs, if_true, Int.reduceNeg, Nat.reduceBEq, uu f93b41.eq_1, vv f93r42.eq_1, uu f93b43.eq_1, uu f93b44.eq_1]
         exact g6 _ rfl rfl rfl rfl (fun h => q2 h.2)
     · have e1 : ¬ (c : Int) ≥ 48 := by omega
       simp only [c1, hcd, e1, Qs, if_true, Int.reduceNeg, Nat.reduceBEq, uu f93b41.eq_1, vv f93r42.eq_1, uu f93b43.eq_1, uu f93b44.eq_1]
       exact g6 _ rfl rfl rfl rfl (fun h => q1 h.1)
   · have c1 : ¬ (i : Int) < s.length := by omega
     simp only [c1, Qs, if_true, Int.reduceNeg, Nat.reduceBEq, uu f93b41.eq_1, vv f93r42.eq_1, uu f93b43.eq_1, uu f93b44.eq_1]
     obtain rfl : i = s.length := by omega
     refine zh0 hs h1 g1 (Nat.le_refl _) g3 g4 rfl rfl rfl rfl ?_ hS
     rw [← g5, List.drop_length]; rfl
 cases s with
 | nil =>
   simp only [List.length_nil, Qs, if_true, Nat.reduceBEq, Int.reduceGT, uu f93.eq_1, uu f93b46.eq_1, uu f93b47.eq_1, vv f93r48.eq_1, uu f93b49.eq_1, vv f93r50.eq_1, uu f93b51.eq_1, vv f93r52.eq_1, uu f93b53.eq_1, vv f93r54.eq_1, uu f93b55.eq_1, uu f93b56.eq_1, vv f93r57.eq_1, uu f93b58.eq_1, vv f93r59.eq_1, uu f93b60.eq_1]
   exact key 0 _ (by simp) (by simp) hS rfl
 | cons c t =>
   have c0 : ((t.length + 1 : Nat) : Int) > 0 := by omega
   have c1 : 0 < ((t.length + 1 : Nat) : Int) := by omega
   by_cases h45 : c = 45
   · have e1 : (c.toNat : Int) = 45 := by rw [h45]; rfl
     simp only [List.length_cons, c0, c1, e1, Qs, if_true, BEq.rfl, Nat.reduceBEq, Int.reduceLE, uu f93.eq_1, uu f93b46.eq_1, uu f93b47.eq_1, vv f93r48.eq_1, uu f93b49.eq_1, vv f93r50.eq_1, uu f93b51.eq_1, vv f93r52.eq_1, uu f93b53.eq_1, vv f93r54.eq_1, uu f93b55.eq_1, uu f93b56.eq_1, vv f93r57.eq_1, uu f93b58.eq_1, vv f93r59.eq_1, uu f93b60.eq_1]
     exact key 1 _ (by simp) (by simp) (by rw [rT, if_pos (by simp [h45])] at hS; exact hS) rfl
   · have e1 : ((c.toNat : Int) == 45) = false := by
       have : c.toNat ≠ 45 := fun h => h45 (UInt8.toNat_inj.1 h)
       simp only [beq_eq_false_iff_ne, ne_eq]; omega
     simp only [List.length_cons, c0, c1, e1, Qs, if_true, Nat.reduceBEq, Int.reduceLE, uu f93.eq_1, uu f93b46.eq_1, uu f93b47.eq_1, vv f93r48.eq_1, uu f93b49.eq_1, vv f93r50.eq_1, uu f93b51.eq_1, vv f93r52.eq_1, uu f93b53.eq_1, vv f93r54.eq_1, uu f93b55.eq_1, uu f93b56.eq_1, vv f93r57.eq_1, uu f93b58.eq_1, vv f93r59.eq_1, uu f93b60.eq_1]
     exact key 0 _ (by simp) (by simp) (by rw [rT, if_neg (by simp [h45])] at hS; exact hS) rfl
def iG (s : Txt) : Option (Int × Txt) := (rI s).bind fun p => if p.1 < 0 then none else some p
theorem w32 (s : Txt) (hs : s.length ≤ 1000000000000) : Spec Tryz.prog 72 [.str s] (fun r => r = y4 (iG s)) := by
 refine Spec.of_awlS hf72 okf72 (by simp) fun S hS => ?_
 unfold iG at hS
 simp only [Qs, Nat.reduceBEq, uu f72.eq_1, vv f72r9.eq_1, uu f72b10.eq_1, vv f72r11.eq_1, uu f72b12.eq_1]
 refine zJ (w18 s hs) ?_ (hr := jO _)
 cases h : rI s with
 | none =>
   rw [h] at hS
   simp only [y4, Qs, List.append_nil, List.nodup_nil, Nat.reduceBEq, vv f72r3.eq_1, uu f72b4.eq_1, uu f72b5.eq_1, vv f72r6.eq_1, uu f72b7.eq_1, uu f72b8.eq_1]
   exact hS
 | some p =>
   obtain ⟨n, r⟩ := p
   rw [h] at hS
   simp only [Option.bind_some] at hS
   by_cases hn : n < 0
   · rw [if_pos hn] at hS
     simp only [y4, hn, Qs, if_true, if_false, List.append_nil, List.nodup_nil, Nat.reduceBEq, vv f72r3.eq_1, uu f72b4.eq_1, uu f72b5.eq_1, vv f72r6.eq_1, uu f72b7.eq_1, uu f72b8.eq_1]
     exact hS
   · rw [if_neg hn] at hS
     simp only [y4, hn, Qs, if_true, if_false, List.append_nil, List.nodup_nil, Nat.reduceBEq, vv f72r1.eq_1, uu f72b2.eq_1, uu f72b5.eq_1, vv f72r6.eq_1, uu f72b7.eq_1, uu f72b8.eq_1]
     exact hS
theorem w20 (s : Txt) (hs : s.length ≤ 1000000000000) : Spec Tryz.prog 47 [.str s] (fun r => r = wE (rS s)) := by
 refine Spec.of_awlS hf47 okf47 (by simp) fun S hS => ?_
 unfold rS at hS
 simp only [Qs, Nat.reduceBEq, uu f47.eq_1, vv f47r9.eq_1, uu f47b10.eq_1, vv f47r11.eq_1, uu f47b12.eq_1]
 refine zJ (w32 s hs) ?_ (hr := jO _)
 unfold iG
 cases h : rI s with
 | none =>
   rw [h] at hS
   simp only [Option.bind_none, y4, Qs, List.append_nil, List.nodup_nil, Nat.reduceBEq, vv f47r3.eq_1, uu f47b4.eq_1, uu f47b5.eq_1, vv f47r6.eq_1, uu f47b7.eq_1, uu f47b8.eq_1]
   exact hS
 | some p =>
   obtain ⟨n, r⟩ := p
   have hr := zhn h
   rw [h] at hS
   simp only [Option.bind_some] at hS ⊢
   by_cases hn : n < 0
   · rw [if_pos (.inl hn)] at hS
     simp only [if_pos hn, y4, hn, Qs, if_true, List.append_nil, List.nodup_nil, Nat.reduceBEq, vv f47r3.eq_1, uu f47b4.eq_1, uu f47b5.eq_1, vv f47r6.eq_1, uu f47b7.eq_1, uu f47b8.eq_1]
     exact hS
   · rw [if_neg hn]
     by_cases hl : n > r.length
     · rw [if_pos (.inr hl)] at hS
       simp only [y4, hn, hl, Qs, if_true, if_false, List.append_nil, List.nodup_nil, Nat.reduceBEq, vv f47r3.eq_1, uu f47b4.eq_1, uu f47b5.eq_1, vv f47r6.eq_1, uu f47b7.eq_1, uu f47b8.eq_1]
       exact hS
     · rw [if_neg (fun h => h.elim hn hl)] at hS
       have b1 : (0 : Int) ≤ n := by omega
       have b2 : n ≤ r.length := by omega
       simp only [y4, hn, hl, b1, b2, Qs, rJ, if_true, if_false, List.append_nil, List.nodup_nil, Nat.reduceBEq, Int.reduceLE, vv f47r1.eq_1, uu f47b2.eq_1, uu f47b5.eq_1, vv f47r6.eq_1, uu f47b7.eq_1, uu f47b8.eq_1]
       rw [List.take_length]
       exact ⟨Int.le_refl _, hS⟩
theorem w12 (s : Txt) (hs : s.length ≤ 1000000000000) : Spec Tryz.prog 70 [.str s] (fun r => r = .str (wS s)) := by
 have h0 : inI (s.length : Int) := ⟨by omega, by omega⟩
 have h1 := jP h0
 refine Spec.of_awlS hf70 okf70 (by simp) fun S hS => ?_
 simp only [Qs, Nat.reduceBEq, uu f70.eq_1, vv f70r1.eq_1, uu f70b2.eq_1, vv f70r3.eq_1, uu f70b4.eq_1]
 refine zJ (w10 s.length h0) ?_
 have c : (wI s.length).length + s.length ≤ 9223372036854775807 := by omega
 simp only [c, Qs, List.nodup_nil, Nat.reduceBEq]
 exact hS
end Go.Abs
set_option maxRecDepth 100000
set_option maxHeartbeats 4000000
namespace Go.Abs
open Go.Proofs Go.Wire Go.RowKit Go.Jr
theorem z39 (d : Disk) (h : Right d) (n : Nat) (hn : n ≤ d.pend.length) : Spec Tryz.prog 87 [dV d, .int .i64 n] (fun r => r = .k (.newl 9 1 none (strs (zN d.secs (d.pend.take n))))) := by
 refine Spec.of_awlS hf87 okf87 (by simp) fun S hS => ?_
 have hwr := h.wr
 have hhi := h.hi
 have hpe := h.pe
 obtain ⟨secs, pend, left, down⟩ := d
 simp only [dV, zD] at *
 simp only [zA, zB, Qs, implies_true, bne_iff_ne, ne_eq, Nat.reduceAdd, Nat.reduceEqDiff, Nat.reduceBEq, List.not_mem_nil, implies_true, uu f87.eq_1, uu f87b25.eq_1, vv f87r26.eq_1, uu f87b27.eq_1, uu f87b28.eq_1, vv f87r29.eq_1, uu f87b30.eq_1, vv f87r31.eq_1, uu f87b32.eq_1]
 rw [zlI]
 refine zU (fun i : Nat => [(1, .int .i64 n), (2, .k (.ptr 2 0)), (5, .k (.own 8)), (6, .int .i64 i)])
   (fun i => [(2, yN secs pend left down), (8, .arr 9 1 (some false) (strs (secs.take i)))])
   (fun i => i ≤ secs.length) (fun i => secs.length - i) 0 rfl rfl (Nat.zero_le _) ?_
 intro i hi
 by_cases hlt : i < secs.length
 · have c1 : (i : Int) < secs.length := by omega
   have c4 : IntKind.i64.wrap ((i : Int) + 1) = (i : Int) + 1 := wrap_in (by omega) (by omega)
   have e2 : secs.take (i + 1) = secs.take i ++ [secs[i]] := by rw [List.take_add_one, List.getElem?_eq_getElem hlt]; rfl
   have e3 : (secs.take i).length = i := by rw [List.length_take]; omega
   simp only [c1, c4, e3, strs_len, zX hlt, uC, Qs, rN, rO, if_true, if_false, forall_eq, bne_iff_ne, ne_eq, List.mem_cons, Nat.reduceAdd, Nat.reduceEqDiff, Nat.reduceLeDiff, Nat.reduceLT, Nat.reduceBEq, List.not_mem_nil, vv f87r16.eq_1, vv f87r17.eq_1, uu f87b18.eq_1, uu f87b19.eq_1, uu f87b20.eq_1, vv f87r21.eq_1, uu f87b22.eq_1, uu f87b23.eq_1]
   exact ⟨by omega, by omega, Next.intro (i + 1) rfl (by rw [← e2]; rfl) (by omega) (by omega)⟩
 · obtain rfl : i = secs.length := by omega
   have c1 : ¬ (secs.length : Int) < secs.length := by omega
   simp only [c1, strs_len, List.take_length, Qs, if_true, if_false, Nat.reduceAdd, Nat.reduceLeDiff, Nat.reduceBEq, uu f87b12.eq_1, vv f87r13.eq_1, uu f87b14.eq_1, uu f87b15.eq_1, uu f87b20.eq_1, vv f87r21.eq_1, uu f87b22.eq_1, uu f87b23.eq_1]
   rw [zlH]
   refine zU (fun j : Nat => [(1, .int .i64 n), (2, .k (.ptr 2 0)), (5, .k (.own 8)), (7, .int .i64 j)])
     (fun j => [(2, yN secs pend left down), (8, .arr 9 1 (some false) (strs (zN secs (pend.take j))))])
     (fun j => j ≤ n) (fun j => n - j) 0 rfl rfl (Nat.zero_le _) ?_
   intro j hj
   by_cases hlt2 : j < n
   · have hjp : j < pend.length := by omega
     have d1 : (j : Int) < n := by omega
     have d2 : (j : Int) < pend.length := by omega
     have d4 : IntKind.i64.wrap ((j : Int) + 1) = (j : Int) + 1 := wrap_in (by omega) (by omega)
     obtain ⟨w0, w1, w2⟩ := hwr _ (List.getElem_mem hjp)
     obtain ⟨q, hq⟩ : ∃ q : Nat, pend[j].pos = q := ⟨pend[j].pos.toNat, by omega⟩
     have e1 := xP hjp
     have e3 := uD (pend.take j) secs
     have e2 : (strs (zN secs (List.take j pend))).set q [C.str pend[j].text] = strs (zN secs (List.take (j + 1) pend)) := by
       rw [nX, zhY hjp, hq, Int.toNat_natCast]
     simp only [d1, d2, d4, e1, e2, e3, hq, strs_len, zL, zA, zB, Qs, kS, o3, o4, o5, o6, kX, if_true, if_false, Nat.reduceAdd, Nat.reduceLeDiff, Nat.reduceBEq, vv f87r3.eq_1, vv f87r4.eq_1, uu f87b5.eq_1, uu f87b6.eq_1, uu f87b7.eq_1, vv f87r8.eq_1, uu f87b9.eq_1, uu f87b10.eq_1]
     exact ⟨by omega, Next.intro (j + 1) rfl rfl (by omega) (by omega)⟩
   · obtain rfl : j = n := by omega
     have d1 : ¬ (j : Int) < j := by omega
     simp only [d1, strs_len, zA, Qs, if_true, List.nodup_nil, List.nodup_cons, Nat.reduceBEq, List.not_mem_nil, vv f87r1.eq_1, uu f87b2.eq_1, uu f87b7.eq_1, vv f87r8.eq_1, uu f87b9.eq_1, uu f87b10.eq_1]
     exact hS
theorem z15 (d : Disk) (h : Right d) (i : Int) (s : Txt) : Spec Tryz.prog 63 [dV d, .int .i64 i, .str s] (fun r => r = zI (x8 d i s)) := by
 refine Spec.of_awlP hf63 okf63 (by simp) fun S hS => ?_
 have c38 := r38 d h
 have hpe := h.pe
 have hlo := h.lo
 have hhi := h.hi
 obtain ⟨secs, pend, left, down⟩ := d
 unfold x8 at hS
 simp only [dV, zD] at *
 simp only [zA, zB, Qs, if_true, bne_iff_ne, ne_eq, Nat.reduceAdd, Nat.reduceEqDiff, Nat.reduceBEq, uu f63.eq_1, vv f63r40.eq_1, uu f63b41.eq_1, vv f63r42.eq_1, uu f63b43.eq_1]
 refine zJ c38 ?_
 cases down
 · rw [if_neg (by simp)] at hS
   by_cases h1 : i < 0
   · rw [if_pos (.inl h1)] at hS
     simp only [h1, zA, zB, Qs, if_true, if_false, List.append_nil, List.nodup_nil, Nat.reduceAdd, Nat.reduceLT, Nat.reduceBEq, Int.reduceBNe, vv f63r28.eq_1, uu f63b29.eq_1, uu f63b30.eq_1, vv f63r31.eq_1, uu f63b32.eq_1, uu f63b33.eq_1, uu f63b36.eq_1, vv f63r37.eq_1, uu f63b38.eq_1, uu f63b39.eq_1]
     exact zS hS (secs := []) (pend := []) rfl rfl rfl
   · by_cases h2 : i ≥ secs.length
     · rw [if_pos (.inr (.inl h2))] at hS
       simp only [h1, h2, strs_len, zA, zB, Qs, if_true, if_false, List.append_nil, List.nodup_nil, Nat.reduceAdd, Nat.reduceLeDiff, Nat.reduceLT, Nat.reduceBEq, Int.reduceBNe, vv f63r28.eq_1, uu f63b29.eq_1, uu f63b30.eq_1, vv f63r31.eq_1, uu f63b32.eq_1, uu f63b33.eq_1, uu f63b36.eq_1, vv f63r37.eq_1, uu f63b38.eq_1, uu f63b39.eq_1]
       exact zS hS (secs := []) (pend := []) rfl rfl rfl
     · by_cases h3 : (s.length : Int) > 16
       · rw [if_pos (.inr (.inr (by omega)))] at hS
         simp only [h1, h2, h3, strs_len, zA, zB, Qs, if_true, if_false, List.append_nil, List.nodup_nil, Nat.reduceAdd, Nat.reduceLeDiff, Nat.reduceLT, Nat.reduceBEq, Int.reduceBNe, vv f63r28.eq_1, uu f63b29.eq_1, uu f63b30.eq_1, vv f63r31.eq_1, uu f63b32.eq_1, uu f63b33.eq_1, uu f63b36.eq_1, vv f63r37.eq_1, uu f63b38.eq_1, uu f63b39.eq_1]
         exact zS hS (secs := []) (pend := []) rfl rfl rfl
       · rw [if_neg (by omega)] at hS
         by_cases h4 : (pend.length : Int) ≥ 512
         · rw [if_pos (by omega)] at hS
           simp only [h1, h2, h3, h4, strs_len, zL, zA, zB, Qs, if_true, if_false, List.append_nil, List.nodup_nil, Nat.reduceAdd, Nat.reduceLeDiff, Nat.reduceLT, Nat.reduceBEq, Int.reduceBNe, vv f63r22.eq_1, uu f63b23.eq_1, uu f63b24.eq_1, vv f63r25.eq_1, uu f63b26.eq_1, uu f63b27.eq_1, uu f63b30.eq_1, vv f63r31.eq_1, uu f63b32.eq_1, uu f63b33.eq_1, uu f63b36.eq_1, vv f63r37.eq_1, uu f63b38.eq_1, uu f63b39.eq_1]
           exact zS hS (secs := []) (pend := []) rfl rfl rfl
         · rw [if_neg (by omega)] at hS
           simp only [h1, h2, h3, h4, strs_len, zL, zA, zB, Qs, if_true, if_false, implies_true, bne_iff_ne, ne_eq, Nat.reduceAdd, Nat.reduceEqDiff, Nat.reduceLeDiff, Nat.reduceBEq, Int.reduceBNe, List.not_mem_nil, implies_true, uu f63b16.eq_1, vv f63r17.eq_1, uu f63b18.eq_1, uu f63b19.eq_1, vv f63r20.eq_1, uu f63b21.eq_1, uu f63b24.eq_1, vv f63r25.eq_1, uu f63b26.eq_1, uu f63b27.eq_1, uu f63b30.eq_1, vv f63r31.eq_1, uu f63b32.eq_1, uu f63b33.eq_1, uu f63b36.eq_1, vv f63r37.eq_1, uu f63b38.eq_1, uu f63b39.eq_1]
           rw [zlC]
           refine zU (fun j : Nat => [(1, .int .i64 i), (2, .str s), (3, .k (.ptr 3 0)), (6, .k (.ptr 6 0)), (9, .k (.own 37)), (10, .int .i64 j)])
             (fun j => [(3, yN secs pend left false), (6, .var 25 [.c (.list 0 (some true) []), .c (.list 0 (some true) []), .c (.int .i64 0), .c (.bool false)]), (37, .arr 52 2 (some false) (wrs (pend.take j)))])
             (fun j => j ≤ pend.length) (fun j => pend.length - j) 0 rfl rfl (Nat.zero_le _) ?_
           intro j hj
           have e3 : (pend.take j).length = j := by rw [List.length_take]; omega
           by_cases hlt : j < pend.length
           · have c1 : (j : Int) < pend.length := by omega
             have c4 : IntKind.i64.wrap ((j : Int) + 1) = (j : Int) + 1 := wrap_in (by omega) (by omega)
             have e2 : pend.take (j + 1) = pend.take j ++ [pend[j]] := by rw [List.take_add_one, List.getElem?_eq_getElem hlt]; rfl
             simp only [c1, c4, e3, zL, xP hlt, j9, zA, zB, Qs, kT, kW, rN, rO, if_true, if_false, forall_eq, bne_iff_ne, ne_eq, List.mem_cons, Nat.reduceAdd, Nat.reduceEqDiff, Nat.reduceLeDiff, Nat.reduceLT, Nat.reduceBEq, List.not_mem_nil, vv f63r7.eq_1, vv f63r8.eq_1, uu f63b9.eq_1, uu f63b10.eq_1, uu f63b11.eq_1, vv f63r12.eq_1, uu f63b13.eq_1, uu f63b14.eq_1]
             exact ⟨by omega, by omega, Next.intro (j + 1) rfl (by rw [← e2]; rfl) (by omega) (by omega)⟩
           · obtain rfl : j = pend.length := by omega
             have c1 : ¬ (pend.length : Int) < pend.length := by omega
             have c5 : IntKind.i64.wrap (16 - (s.length : Int)) = ((16 - s.length : Nat) : Int) := by rw [wrap_in (by omega) (by omega)]; omega
             simp only [c1, c5, zL, List.take_length, zA, zB, Qs, if_true, if_false, Nat.reduceAdd, Nat.reduceLeDiff, Nat.reduceBEq, vv f63r5.eq_1, uu f63b6.eq_1, uu f63b11.eq_1, vv f63r12.eq_1, uu f63b13.eq_1, uu f63b14.eq_1]
             have e4 : wrs pend ++ [[C.int .i64 i, C.str (s ++ yM (16 - s.length))]] = wrs (pend ++ [⟨i, s ++ yM (16 - s.length)⟩]) := j9 pend ⟨i, s ++ yM (16 - s.length)⟩
             have hzl : (yM (16 - s.length)).length = 16 - s.length := by simp [yM]
             refine zJ (r32 (16 - s.length) (by omega)) ?_
             simp only [e4, zL, zA, zB, Qs, kT, kW, rN, rO, qP, if_true, if_false, forall_eq, bne_iff_ne, ne_eq, List.append_nil, List.mem_cons, List.nodup_nil, List.nodup_cons, Nat.reduceAdd, Nat.reduceEqDiff, Nat.reduceLeDiff, Nat.reduceLT, Nat.reduceBEq, List.not_mem_nil, vv f63r1.eq_1, uu f63b2.eq_1, vv f63r3.eq_1, uu f63b4.eq_1]
             refine ⟨by omega, by omega, by omega, ?_⟩
             exact vO hS rfl rfl (yR _) (nW _ _) rfl
 · simp only [zA, zB, Qs, if_true, List.append_nil, List.nodup_nil, Nat.reduceAdd, Nat.reduceLT, Nat.reduceBEq, Int.reduceBNe, vv f63r34.eq_1, uu f63b35.eq_1, uu f63b36.eq_1, vv f63r37.eq_1, uu f63b38.eq_1, uu f63b39.eq_1]
   exact zS hS (secs := []) (pend := []) rfl rfl rfl
theorem z24 (d : Disk) (h : Right d) : Spec Tryz.prog 65 [dV d] (fun r => r = zI (flushD d)) := by
 refine Spec.of_awlP hf65 okf65 (by simp) fun S hS => ?_
 have c38 := r38 d h
 have hpe := h.pe
 have hwr := h.wr
 have hse := h.se
 have hL0 := h.l0
 have hL1 := h.l1
 have cS := z39 d h
 obtain ⟨secs, pend, left, down⟩ := d
 unfold flushD at hS
 simp only [dV, zD] at *
 simp only [zA, zB, Qs, if_true, bne_iff_ne, ne_eq, Nat.reduceAdd, Nat.reduceEqDiff, Nat.reduceBEq, uu f65.eq_1, vv f65r30.eq_1, uu f65b31.eq_1, vv f65r32.eq_1, uu f65b33.eq_1]
 refine zJ c38 ?_
 cases down
 · rw [if_neg (by simp)] at hS
   by_cases h0 : left ≥ 0
   · by_cases h1 : left < pend.length
     · rw [if_pos ⟨h0, h1⟩] at hS
       obtain ⟨k, rfl⟩ : ∃ k : Nat, left = k := ⟨left.toNat, by omega⟩
       simp only [h0, h1, zL, zA, zB, Qs, if_true, if_false, Nat.reduceAdd, Nat.reduceLeDiff, Nat.reduceBEq, Int.reduceBNe, vv f65r16.eq_1, uu f65b17.eq_1, uu f65b18.eq_1, vv f65r19.eq_1, uu f65b20.eq_1, uu f65b21.eq_1, vv f65r22.eq_1, uu f65b23.eq_1, uu f65b26.eq_1, vv f65r27.eq_1, uu f65b28.eq_1, uu f65b29.eq_1]
       have hkp : k < pend.length := by omega
       refine tG (cS k (by omega)) ?_
       have e1 := xP hkp
       obtain ⟨w0, w1, w2⟩ := hwr _ (List.getElem_mem hkp)
       obtain ⟨q, hq⟩ : ∃ q : Nat, pend[k].pos = q := ⟨pend[k].pos.toNat, by omega⟩
       have hpl := uD (pend.take k) secs
       have hq1 : q < (zN secs (pend.take k)).length := by omega
       have hq2 : (q : Int) < (zN secs (pend.take k)).length := by omega
       have e3 := zX hq1
       have hps : ((zN secs (pend.take k))[q]'hq1).length = 16 := rV (pend.take k) secs hse (fun w hw => (hwr w (List.mem_of_mem_take hw)).2.2) _ (List.getElem_mem _)
       have hk2 : (k : Int) < pend.length := by omega
       have e4 : (strs (zN secs (pend.take k))).set q [C.str (pend[k].text.take 8 ++ ((zN secs (pend.take k))[q]'hq1).drop 8)] = strs ((zN secs (pend.take k)).set q (pend[k].text.take 8 ++ ((zN secs (pend.take k))[q]'hq1).drop 8)) := nX _ _ _
       have c36 : List.take ((zN secs (pend.take k))[q]'hq1).length ((zN secs (pend.take k))[q]'hq1) = ((zN secs (pend.take k))[q]'hq1) := List.take_length
       simp only [h0, h1, e1, hq, hq2, e3, e4, c36, hk2, strs_len, zL, zA, zB, Qs, rJ, zdY, zd0, zd3, o3, o4, o5, o6, if_true, if_false, bne_iff_ne, ne_eq, Int.reduceNeg, List.append_nil, List.nodup_nil, List.nodup_cons, Nat.reduceAdd, Nat.reduceEqDiff, Nat.reduceLeDiff, Nat.reduceLT, Nat.reduceBEq, Int.reduceLE, Int.reduceToNat, List.not_mem_nil, vv f65r10.eq_1, uu f65b11.eq_1, vv f65r12.eq_1, uu f65b13.eq_1, vv f65r14.eq_1, uu f65b15.eq_1]
       rw [Int.toNat_natCast, List.getD_eq_getElem?_getD, List.getElem?_eq_getElem hkp, Option.getD_some, hq, Int.toNat_natCast, List.getD_eq_getElem?_getD, List.getElem?_eq_getElem hq1, Option.getD_some] at hS
       refine ⟨by omega, ⟨by omega, Int.le_refl _⟩, by simp only [List.length_take, List.length_drop, hps, w2]; decide, ?_⟩
       exact vO hS rfl rfl (wK _ _) (yJ []) rfl
     · rw [if_neg (by omega), if_pos h0] at hS
       simp only [h0, h1, zL, zA, zB, Qs, if_true, if_false, Int.reduceNeg, Nat.reduceAdd, Nat.reduceLeDiff, Nat.reduceBEq, Int.reduceBNe, vv f65r8.eq_1, uu f65b9.eq_1, uu f65b18.eq_1, vv f65r19.eq_1, uu f65b20.eq_1, uu f65b21.eq_1, vv f65r22.eq_1, uu f65b23.eq_1, uu f65b26.eq_1, vv f65r27.eq_1, uu f65b28.eq_1, uu f65b29.eq_1]
       refine tG (cS pend.length (Nat.le_refl _)) ?_
       have w1 : IntKind.i64.wrap (left - (pend.length : Int)) = left - pend.length := wrap_in (by omega) (by omega)
       simp only [h0, w1, List.take_length, strs_len, zL, zA, zB, Qs, zeR, if_true, if_false, bne_iff_ne, ne_eq, Int.reduceNeg, List.append_nil, List.nodup_nil, List.nodup_cons, Nat.reduceAdd, Nat.reduceEqDiff, Nat.reduceLeDiff, Nat.reduceLT, Nat.reduceBEq, List.not_mem_nil, vv f65r1.eq_1, uu f65b2.eq_1, vv f65r3.eq_1, uu f65b4.eq_1, vv f65r5.eq_1, uu f65b6.eq_1, uu f65b7.eq_1]
       exact vO hS rfl rfl (wK _ _) (yJ []) rfl
   · rw [if_neg (by omega), if_neg h0] at hS
     simp only [h0, zL, zA, zB, Qs, if_true, if_false, Int.reduceNeg, Nat.reduceAdd, Nat.reduceLeDiff, Nat.reduceBEq, Int.reduceBNe, vv f65r8.eq_1, uu f65b9.eq_1, uu f65b18.eq_1, vv f65r19.eq_1, uu f65b20.eq_1, uu f65b21.eq_1, vv f65r22.eq_1, uu f65b23.eq_1, uu f65b26.eq_1, vv f65r27.eq_1, uu f65b28.eq_1, uu f65b29.eq_1]
     refine tG (cS pend.length (Nat.le_refl _)) ?_
     simp only [h0, List.take_length, strs_len, zL, zA, zB, Qs, zeR, sJ, if_true, if_false, bne_iff_ne, ne_eq, Int.reduceNeg, List.append_nil, List.nodup_nil, List.nodup_cons, Nat.reduceAdd, Nat.reduceEqDiff, Nat.reduceLeDiff, Nat.reduceLT, Nat.reduceBEq, List.not_mem_nil, vv f65r1.eq_1, uu f65b2.eq_1, vv f65r3.eq_1, uu f65b4.eq_1, vv f65r5.eq_1, uu f65b6.eq_1, uu f65b7.eq_1]
     exact vO hS rfl rfl (wK _ _) (yJ []) rfl
 · simp only [zA, zB, Qs, if_true, List.append_nil, List.nodup_nil, Nat.reduceAdd, Nat.reduceLT, Nat.reduceBEq, Int.reduceBNe, vv f65r24.eq_1, uu f65b25.eq_1, uu f65b26.eq_1, vv f65r27.eq_1, uu f65b28.eq_1, uu f65b29.eq_1]
   exact zS hS (secs := []) (pend := []) rfl rfl rfl
theorem z10 (d : Disk) (h1 : d.secs.length ≤ 512) (h2 : d.pend.length ≤ 512) : Spec Tryz.prog 13 [dV d, dV d] (fun r => r = .bool true) := by
 refine Spec.of_awlS hf13 okf13 (by simp) fun S hS => ?_
 obtain ⟨secs, pend, left, down⟩ := d
 simp only [] at h1 h2
 simp only [dV, zD] at *
 have q0 : (down == down) = true := by simp
 simp only [strs_len, zL, zA, zB, Qs, zkt, zku, zkE, if_true, if_false, forall_const, bne_iff_ne, ne_eq, BEq.rfl, List.nodup_nil, Nat.reduceAdd, Nat.reduceEqDiff, Nat.reduceLeDiff, Nat.reduceBEq, uu f13.eq_1, uu f13b33.eq_1, vv f13r34.eq_1, uu f13b35.eq_1, uu f13b36.eq_1, vv f13r37.eq_1, uu f13b38.eq_1, uu f13b39.eq_1, vv f13r40.eq_1, uu f13b41.eq_1, uu f13b42.eq_1, vv f13r43.eq_1, uu f13b44.eq_1]
 rw [zlf]
 refine zU (fun i : Nat => [(2, .k (.ptr 2 0)), (3, .k (.ptr 3 0)), (5, .int .i64 i)]) (fun _ => [(2, yN secs pend left down), (3, yN secs pend left down)])
   (fun i => i ≤ secs.length) (fun i => secs.length - i) 0 rfl rfl (Nat.zero_le _) ?_
 intro i hi
 by_cases hlt : i < secs.length
 · have c1 : (i : Int) < secs.length := by omega
   have c4 : IntKind.i64.wrap ((i : Int) + 1) = (i : Int) + 1 := wrap_in (by omega) (by omega)
   simp only [c1, c4, strs_len, zX hlt, Qs, if_true, if_false, BEq.rfl, Nat.reduceAdd, Nat.reduceLeDiff, Nat.reduceBEq, vv f13r20.eq_1, uu f13b23.eq_1, vv f13r24.eq_1, uu f13b25.eq_1, uu f13b26.eq_1, uu f13b27.eq_1, uu f13b28.eq_1, vv f13r29.eq_1, uu f13b30.eq_1, uu f13b31.eq_1]
   exact Next.intro (i + 1) rfl rfl (by omega) (by omega)
 · have c1 : ¬ (i : Int) < secs.length := by omega
   simp only [c1, strs_len, Qs, if_true, if_false, Nat.reduceAdd, Nat.reduceLeDiff, Nat.reduceBEq, uu f13b16.eq_1, vv f13r17.eq_1, uu f13b18.eq_1, uu f13b19.eq_1, uu f13b28.eq_1, vv f13r29.eq_1, uu f13b30.eq_1, uu f13b31.eq_1]
   rw [zle]
   refine zU (fun i : Nat => [(2, .k (.ptr 2 0)), (3, .k (.ptr 3 0)), (6, .int .i64 i)]) (fun _ => [(2, yN secs pend left down), (3, yN secs pend left down)])
     (fun i => i ≤ pend.length) (fun i => pend.length - i) 0 rfl rfl (Nat.zero_le _) ?_
   intro i hi
   by_cases hlt : i < pend.length
   · have c1 : (i : Int) < pend.length := by omega
     have c4 : IntKind.i64.wrap ((i : Int) + 1) = (i : Int) + 1 := wrap_in (by omega) (by omega)
     simp only [c1, c4, zL, xP hlt, Qs, zky, zkF, zkG, zkH, zkI, zkJ, zkK, if_true, if_false, BEq.rfl, Nat.reduceAdd, Nat.reduceLeDiff, Nat.reduceBEq, Option.bind_some, vv f13r3.eq_1, uu f13b6.eq_1, vv f13r7.eq_1, uu f13b8.eq_1, uu f13b9.eq_1, uu f13b10.eq_1, uu f13b11.eq_1, vv f13r12.eq_1, uu f13b13.eq_1, uu f13b14.eq_1]
     exact Next.intro (i + 1) rfl rfl (by omega) (by omega)
   · have c1 : ¬ (i : Int) < pend.length := by omega
     simp only [c1, zL, Qs, if_true, if_false, List.nodup_nil, Nat.reduceAdd, Nat.reduceLeDiff, Nat.reduceBEq, vv f13r1.eq_1, uu f13b2.eq_1, uu f13b11.eq_1, vv f13r12.eq_1, uu f13b13.eq_1, uu f13b14.eq_1]
     exact hS
theorem z22 (d : Disk) (h : Right d) : Spec Tryz.prog 43 [dV d] (fun r => r = .int .i64 (yV d)) := by
 refine Spec.of_awlS hf43 okf43 (by simp) fun S hS => ?_
 have c34 := r39 d h
 obtain ⟨secs, pend, left, down⟩ := d
 unfold yV at hS
 simp only [dV, zD] at *
 simp only [zA, zB, Qs, if_true, Nat.reduceAdd, Nat.reduceBEq, uu f43.eq_1, vv f43r21.eq_1, uu f43b22.eq_1, vv f43r23.eq_1, uu f43b24.eq_1]
 refine zJ c34 ?_
 cases down
 · cases pend with
   | nil =>
     simp only [zL, Qs, if_true, if_false, List.nodup_nil, Nat.reduceAdd, Nat.reduceLeDiff, Nat.reduceBEq, Int.reduceGT, Int.reduceBNe, vv f43r1.eq_1, uu f43b2.eq_1, uu f43b5.eq_1, vv f43r6.eq_1, uu f43b7.eq_1, uu f43b8.eq_1, uu f43b11.eq_1, vv f43r12.eq_1, uu f43b13.eq_1, uu f43b14.eq_1, uu f43b17.eq_1, vv f43r18.eq_1, uu f43b19.eq_1, uu f43b20.eq_1]
     exact hS
   | cons a l =>
     have c1 : ((a :: l).length : Int) > 0 := by rw [List.length_cons]; omega
     simp only [zL, Qs, if_true, if_false, List.nodup_nil, Nat.reduceAdd, Nat.reduceLeDiff, Nat.reduceBEq, Int.reduceBNe, vv f43r1.eq_1, uu f43b2.eq_1, vv f43r3.eq_1, uu f43b4.eq_1, uu f43b5.eq_1, vv f43r6.eq_1, uu f43b7.eq_1, uu f43b8.eq_1, uu f43b11.eq_1, vv f43r12.eq_1, uu f43b13.eq_1, uu f43b14.eq_1, uu f43b17.eq_1, vv f43r18.eq_1, uu f43b19.eq_1, uu f43b20.eq_1]
     exact ⟨fun _ => hS, fun g => absurd (by omega) g⟩
 · simp only [Qs, if_true, if_false, List.nodup_nil, Nat.reduceAdd, Nat.reduceBEq, Int.reduceBNe, vv f43r9.eq_1, uu f43b10.eq_1, uu f43b11.eq_1, vv f43r12.eq_1, uu f43b13.eq_1, uu f43b14.eq_1, uu f43b17.eq_1, vv f43r18.eq_1, uu f43b19.eq_1, uu f43b20.eq_1]
   exact hS
theorem z25 (l : List Txt) (h : ∀ s ∈ l, s.length ≤ 2000) (h2 : (wN wS l).length ≤ 1000000000) : Spec Tryz.prog 69 [lst 1 (strs l)] (fun r => r = .int .i64 ((wN wS l).length : Int)) := by
 refine Spec.of_len hf69 fun hlen => ?_
 have hl := sP (sz := 1) (rows := strs l) List.mem_cons_self hlen
 rw [strs_len] at hl
 clear hlen
 refine Spec.of_awlS hf69 okf69 (by simp) fun S hS => ?_
 simp only [Qs, uu f69.eq_1, uu f69b12.eq_1, vv f69r13.eq_1, uu f69b14.eq_1, uu f69b15.eq_1, vv f69r16.eq_1, uu f69b17.eq_1, vv f69r18.eq_1, uu f69b19.eq_1]
 rw [zlG]
 refine zU (fun i : Nat => [(0, lst 1 (strs l)), (3, .int .i64 ((wN wS (l.take i)).length : Int)), (4, .int .i64 i)]) (fun _ => []) (fun i => i ≤ l.length) (fun i => l.length - i) 0 rfl rfl (Nat.zero_le _) ?_
 intro i hi
 by_cases hlt : i < l.length
 · have c1 : (i : Int) < l.length := by omega
   have c4 : IntKind.i64.wrap ((i : Int) + 1) = (i : Int) + 1 := wrap_in (by omega) (by omega)
   have hs := h _ (List.getElem_mem hlt)
   have e2 : l.take (i + 1) = l.take i ++ [l[i]] := by rw [List.take_add_one, List.getElem?_eq_getElem hlt]; rfl
   have hw := q9 wS (l.take (i + 1)) (l.drop (i + 1))
   rw [List.take_append_drop] at hw
   have hw2 := congrArg List.length hw
   rw [List.length_append, e2, q9, nO, List.length_append] at hw2
   have c5 : IntKind.i64.wrap (((wN wS (l.take i)).length : Int) + ((wS l[i]).length : Int)) = ((wN wS (l.take (i + 1))).length : Int) := by
     rw [e2, q9, nO, List.length_append, wrap_in (by omega) (by omega)]; omega
   simp only [c1, c4, strs_len, zX hlt, Qs, if_true, Nat.reduceBEq, vv f69r3.eq_1, vv f69r4.eq_1, uu f69b5.eq_1, uu f69b6.eq_1, uu f69b7.eq_1, vv f69r8.eq_1, uu f69b9.eq_1, uu f69b10.eq_1]
   refine zJ (w12 l[i] (by omega)) ?_
   simp only [c1, c4, c5, strs_len, zX hlt, Qs, if_true, Nat.reduceBEq]
   exact Next.intro (i + 1) rfl rfl (by omega) (by omega)
 · obtain rfl : i = l.length := by omega
   have c1 : ¬ (l.length : Int) < l.length := by omega
   simp only [c1, strs_len, List.take_length, Qs, if_true, List.nodup_nil, Nat.reduceBEq, vv f69r1.eq_1, uu f69b2.eq_1, uu f69b7.eq_1, vv f69r8.eq_1, uu f69b9.eq_1, uu f69b10.eq_1]
   exact hS
def rZ (d : Disk) : Int := match xS (yF (d.secs.getD 0 [])) (yF (d.secs.getD 1 [])) with | none => -1 | some p => p.1
theorem z27 (d : Disk) (h : Right d) (h2 : 2 ≤ d.secs.length) : Spec Tryz.prog 44 [dV d] (fun r => r = .int .i64 (rZ d)) := by
 refine Spec.of_awlS hf44 okf44 (by simp) fun S hS => ?_
 have hse := h.se
 obtain ⟨secs, pend, left, down⟩ := d
 simp only [] at h2
 have g0 := zX (l := secs) (i := 0) (by omega)
 have g1 := zX (l := secs) (i := 1) (by omega)
 have p0 : (0 : Int) < secs.length := by omega
 have p1 : (1 : Int) < secs.length := by omega
 have d0 : secs.getD 0 [] = secs[0] := by rw [List.getD_eq_getElem?_getD, List.getElem?_eq_getElem (by omega)]; rfl
 have d1 : secs.getD 1 [] = secs[1] := by rw [List.getD_eq_getElem?_getD, List.getElem?_eq_getElem (by omega)]; rfl
 have c0 := r15 secs[0] (hse _ (List.getElem_mem _))
 have c1 := r15 secs[1] (hse _ (List.getElem_mem _))
 unfold rZ at hS
 simp only [] at hS
 rw [d0, d1] at hS
 simp only [dV, zD] at *
 simp only [g0, g1, p0, p1, strs_len, zA, zB, Qs, if_false, Nat.reduceAdd, Nat.reduceLeDiff, Nat.reduceBEq, Int.reduceLE, uu f44.eq_1, vv f44r17.eq_1, uu f44b18.eq_1, vv f44r19.eq_1, uu f44b20.eq_1]
 refine zJ c0 ?_
 simp only [g0, g1, p0, p1, strs_len, zA, zB, Qs, if_false, Nat.reduceAdd, Nat.reduceLeDiff, Nat.reduceBEq, Int.reduceLE, Int.reduceToNat, vv f44r15.eq_1, uu f44b16.eq_1]
 refine zJ c1 ?_
 cases hA : yF secs[0] with
 | none =>
   cases hB : yF secs[1] with
   | none =>
     rw [hA, hB] at hS
     simp only [sS, Qs, if_true, Int.reduceNeg, List.nodup_nil, Nat.reduceBEq, Int.reduceLT, vv f44r9.eq_1, uu f44b10.eq_1, uu f44b11.eq_1, vv f44r12.eq_1, uu f44b13.eq_1, uu f44b14.eq_1]
     exact hS
   | some m =>
     rw [hA, hB] at hS
     have e1 : ¬ (m : Int) < 0 := by omega
     have e2 : (m : Int) > -1 := by omega
     simp only [sS, e1, e2, Qs, if_true, Int.reduceNeg, List.nodup_nil, Nat.reduceBEq, Int.reduceLT, vv f44r3.eq_1, uu f44b4.eq_1, uu f44b5.eq_1, vv f44r6.eq_1, uu f44b7.eq_1, uu f44b8.eq_1, uu f44b11.eq_1, vv f44r12.eq_1, uu f44b13.eq_1, uu f44b14.eq_1]
     exact hS
 | some n =>
   have e0 : ¬ (n : Int) < 0 := by omega
   cases hB : yF secs[1] with
   | none =>
     rw [hA, hB] at hS
     have e2 : ¬ (-1 : Int) > n := by omega
     simp only [sS, e0, e2, Qs, if_true, Int.reduceNeg, List.nodup_nil, Nat.reduceBEq, vv f44r1.eq_1, uu f44b2.eq_1, uu f44b5.eq_1, vv f44r6.eq_1, uu f44b7.eq_1, uu f44b8.eq_1, uu f44b11.eq_1, vv f44r12.eq_1, uu f44b13.eq_1, uu f44b14.eq_1]
     exact hS
   | some m =>
     rw [hA, hB] at hS
     have e1 : ¬ (m : Int) < 0 := by omega
     by_cases hmn : m > n
     · have e2 : (m : Int) > n := by omega
       simp only [xS, if_pos hmn] at hS
       simp only [sS, e0, e1, e2, Qs, if_true, List.nodup_nil, Nat.reduceBEq, vv f44r3.eq_1, uu f44b4.eq_1, uu f44b5.eq_1, vv f44r6.eq_1, uu f44b7.eq_1, uu f44b8.eq_1, uu f44b11.eq_1, vv f44r12.eq_1, uu f44b13.eq_1, uu f44b14.eq_1]
       exact hS
     · have e2 : ¬ (m : Int) > n := by omega
       simp only [xS, if_neg hmn] at hS
       simp only [sS, e0, e1, e2, Qs, if_true, List.nodup_nil, Nat.reduceBEq, vv f44r1.eq_1, uu f44b2.eq_1, uu f44b5.eq_1, vv f44r6.eq_1, uu f44b7.eq_1, uu f44b8.eq_1, uu f44b11.eq_1, vv f44r12.eq_1, uu f44b13.eq_1, uu f44b14.eq_1]
       exact hS
theorem uT {S : V → Prop} {X : V} (h : ∀ r, r.fz.nrm = X → S r) {k : K} {c : C} {e : Int} {l : List Txt} (e1 : k.fz = .c c) (h1 : c.norm = lstC 1 (strs l)) (hX : X = .tup [lst 1 (strs l), .int .i64 e]) : S (.tup [.k k, .k (.c (.int .i64 e))]) := by
 refine h _ ?_
 rw [hX]
 show V.tup [.k (k.fz.nrm), .k (.c (C.norm (.int .i64 e)))] = _
 rw [e1]
 show V.tup [.k (.c c.norm), _] = _
 rw [h1, sO]
def iH (n : Nat) (bytes : Txt) : List Txt × Int := match pz n bytes with
 | none => ([], 22)
 | some l => if l.length > 500 then ([], 22) else (l, 0)
def pE (d : Disk) : List Txt × Int :=
 if yV d ≠ 0 then ([], yV d)
 else if d.secs.length ≤ 2 then ([], 22)
 else match xS (yF (d.secs.getD 0 [])) (yF (d.secs.getD 1 [])) with
   | none => ([], 22)
   | some (_, n) => if n > (logD d).length then ([], 22) else iH n ((logD d).take n)
theorem zh2 (d : Disk) : pE d = ((readJ d).1.list, (readJ d).2) := by
 unfold pE readJ
 by_cases h1 : yV d ≠ 0
 · rw [if_pos h1, if_pos h1]
 · rw [if_neg h1, if_neg h1]
   by_cases h2 : d.secs.length ≤ 2
   · rw [if_pos h2, if_pos h2]
   · rw [if_neg h2, if_neg h2]
     cases xS (yF (d.secs.getD 0 [])) (yF (d.secs.getD 1 [])) with
     | none => rfl
     | some p =>
       obtain ⟨c, n⟩ := p
       simp only []
       by_cases h3 : n > (logD d).length
       · rw [if_pos h3, if_pos h3]
       · rw [if_neg h3, if_neg h3, iH]
         cases pz n ((logD d).take n) with
         | none => rfl
         | some l =>
           simp only []
           by_cases h4 : l.length > 500
           · rw [if_pos h4, if_pos h4]
           · rw [if_neg h4, if_neg h4]
theorem z16 (d : Disk) (h : Right d) : Spec Tryz.prog 19 [dV d] (fun r => r = .tup [lst 1 (strs (readJ d).1.list), .int .i64 (readJ d).2]) := by
 refine Spec.of_awlP hf19 okf19 (by simp) fun S hS => ?_
 have c22 := z22 d h
 have c27 := z27 d h
 have c36 := r13 d h
 have hse := h.se
 have hhi := h.hi
 have hll := iE h
 obtain ⟨secs, pend, left, down⟩ := d
 rw [show ((readJ ⟨secs, pend, left, down⟩).1.list : List Txt) = (pE ⟨secs, pend, left, down⟩).1 by rw [zh2], show ((readJ ⟨secs, pend, left, down⟩).2 : Int) = (pE ⟨secs, pend, left, down⟩).2 by rw [zh2]] at hS
 unfold pE at hS
 unfold rZ at c27
 simp only [dV, zD] at *
 simp only [zA, zB, Qs, if_true, bne_iff_ne, ne_eq, Nat.reduceAdd, Nat.reduceEqDiff, Nat.reduceBEq, uu f19.eq_1, vv f19r54.eq_1, uu f19b55.eq_1, vv f19r56.eq_1, uu f19b57.eq_1]
 refine zJ c22 ?_
 by_cases hr : yV ⟨secs, pend, left, down⟩ = 0
 · rw [if_neg (by simp [hr])] at hS
   by_cases h2 : (secs.length : Int) < 3
   · simp only [hr, h2, strs_len, zA, zB, Qs, sJ, if_true, if_false, bne_iff_ne, ne_eq, BEq.rfl, List.append_nil, List.nodup_nil, List.nodup_cons, Nat.reduceAdd, Nat.reduceEqDiff, Nat.reduceLeDiff, Nat.reduceBEq, Int.reduceBNe, List.not_mem_nil, vv f19r42.eq_1, uu f19b43.eq_1, uu f19b44.eq_1, vv f19r45.eq_1, uu f19b46.eq_1, uu f19b47.eq_1, uu f19b50.eq_1, vv f19r51.eq_1, uu f19b52.eq_1, uu f19b53.eq_1]
     rw [if_pos (show secs.length ≤ 2 by omega)] at hS
     exact uT hS (l := []) rfl rfl rfl
   · rw [if_neg (show ¬ secs.length ≤ 2 by omega)] at hS
     have c27 := c27 (by omega)
     simp only [hr, h2, strs_len, zA, zB, Qs, if_true, if_false, Nat.reduceAdd, Nat.reduceLeDiff, Nat.reduceBEq, Int.reduceBNe, vv f19r45.eq_1, uu f19b46.eq_1, uu f19b47.eq_1, uu f19b50.eq_1, vv f19r51.eq_1, uu f19b52.eq_1, uu f19b53.eq_1]
     refine zJ c27 ?_
     cases hc : xS (yF (secs.getD 0 [])) (yF (secs.getD 1 [])) with
     | none =>
       rw [hc] at hS
       simp only [hr, h2, hc, strs_len, zA, zB, Qs, if_true, if_false, bne_iff_ne, ne_eq, Int.reduceNeg, BEq.rfl, List.append_nil, List.nodup_nil, List.nodup_cons, Nat.reduceEqDiff, Nat.reduceBEq, Int.reduceLT, List.not_mem_nil, vv f19r42.eq_1, uu f19b43.eq_1, uu f19b44.eq_1]
       exact uT hS (l := []) rfl rfl rfl
     | some p =>
       obtain ⟨c, n⟩ := p
       rw [hc] at hS c27
       simp only [] at hS c27
       have h01 := zhZ hc
       have e0 : ¬ c < 0 := by omega
       obtain ⟨q, rfl⟩ : ∃ q : Nat, c = q := ⟨c.toNat, by omega⟩
       have hq : q < secs.length := by omega
       have hq2 : (q : Int) < secs.length := by omega
       have hnum : yF (secs[q]) = some n := by
         have d0 : secs.getD 0 [] = secs[0] := by rw [List.getD_eq_getElem?_getD, List.getElem?_eq_getElem (by omega)]; rfl
         have d1 : secs.getD 1 [] = secs[1] := by rw [List.getD_eq_getElem?_getD, List.getElem?_eq_getElem (by omega)]; rfl
         rw [d0, d1] at hc
         generalize hA : yF secs[0] = A at hc
         generalize hB : yF secs[1] = B at hc
         rcases h01 with h01 | h01
         · obtain rfl : q = 0 := by omega
           rw [hA]
           cases A <;> cases B <;> simp only [xS] at hc
           · cases hc
           · cases hc
           · cases hc; rfl
           · split at hc
             · cases hc
             · cases hc; rfl
         · obtain rfl : q = 1 := by omega
           rw [hB]
           cases A <;> cases B <;> simp only [xS] at hc
           · cases hc
           · cases hc; rfl
           · cases hc
           · split at hc
             · cases hc; rfl
             · cases hc
       have c37 := r15 secs[q] (hse _ (List.getElem_mem _))
       rw [hnum] at c37
       simp only [hr, h2, hc, e0, strs_len, zA, zB, Qs, if_true, if_false, Nat.reduceAdd, Nat.reduceBEq, vv f19r40.eq_1, uu f19b41.eq_1, uu f19b44.eq_1]
       refine zJ c36 ?_
       simp only [hq2, zX hq, strs_len, zA, zB, Qs, if_true, if_false, Nat.reduceAdd, Nat.reduceLeDiff, Nat.reduceBEq, vv f19r38.eq_1, uu f19b39.eq_1]
       refine sQ c27 ?_
       simp only [V.fz, Abs.K.fz, hq2, zX hq, strs_len, zA, zB, Qs, Nat.reduceBEq]
       refine sQ c37 ?_
       simp only [V.fz, Abs.K.fz, sS]
       generalize logD ⟨secs, pend, left, down⟩ = log at hS hll ⊢
       by_cases hN : (n : Int) > log.length
       · rw [if_pos (by omega)] at hS
         simp only [hN, strs_len, zA, zB, Qs, if_true, bne_iff_ne, ne_eq, BEq.rfl, List.append_nil, List.nodup_nil, List.nodup_cons, Nat.reduceEqDiff, Nat.reduceBEq, List.not_mem_nil, vv f19r32.eq_1, uu f19b33.eq_1, uu f19b34.eq_1, vv f19r35.eq_1, uu f19b36.eq_1, uu f19b37.eq_1]
         exact uT hS (l := []) rfl rfl rfl
       · rw [if_neg (by omega)] at hS
         simp only [hN, strs_len, zA, zB, Qs, if_true, bne_iff_ne, ne_eq, Nat.reduceEqDiff, Nat.reduceBEq, Int.reduceLE, uu f19b26.eq_1, uu f19b27.eq_1, vv f19r28.eq_1, uu f19b29.eq_1, vv f19r30.eq_1, uu f19b31.eq_1, uu f19b34.eq_1, vv f19r35.eq_1, uu f19b36.eq_1, uu f19b37.eq_1]
         refine ⟨by omega, ?_⟩
         have hbl : (log.take n).length ≤ 8192 := by rw [List.length_take]; omega
         have hbn : (log.take n).length ≤ n := by rw [List.length_take]; omega
         generalize log.take n = bytes at hS hbl hbn
         unfold iH at hS
         rw [zlg]
         refine zU (fun x : List Txt × Txt => [(7, .str x.2), (8, .k (.own 8))]) (fun x => [(8, .arr 9 1 (nlApp (some true) (strs x.1)) (strs x.1))])
           (fun x => x.1.length + x.2.length ≤ bytes.length ∧ ∃ k, x.2.length ≤ k ∧ (pz k x.2).map (x.1 ++ ·) = pz n bytes) (fun x => x.2.length) ([], bytes) rfl rfl ⟨by simp, n, hbn, by cases pz n bytes <;> simp⟩ ?_
         rintro ⟨acc, rest⟩ ⟨g1, k, g3, g4⟩
         simp only [] at g1 g3 g4
         match rest, g1, g3, g4 with
         | [], g1, g3, g4 =>
           have g5 : pz n bytes = some acc := by rw [← g4]; cases k <;> simp [pz]
           rw [g5] at hS
           simp only [] at hS
           simp only [List.length_nil, strs_len, Qs, zdR, zdS, if_true, bne_iff_ne, ne_eq, List.append_nil, List.nodup_nil, List.nodup_cons, Nat.reduceEqDiff, Nat.reduceBEq, Int.reduceGT, List.not_mem_nil, vv f19r1.eq_1, uu f19b2.eq_1, vv f19r3.eq_1, uu f19b4.eq_1, uu f19b5.eq_1, vv f19r6.eq_1, uu f19b7.eq_1, uu f19b8.eq_1, uu f19b21.eq_1, vv f19r22.eq_1, uu f19b23.eq_1, uu f19b24.eq_1]
           refine ⟨fun g => ?_, fun g => ?_⟩
           · rw [if_pos (by omega)] at hS
             exact uT hS (l := []) rfl rfl rfl
           · rw [if_neg (by omega)] at hS
             rw [zA]
             exact uT hS rfl (wK _ _) rfl
         | c :: t, g1, g3, g4 =>
           have hgt : ((c :: t).length : Int) > 0 := by rw [List.length_cons]; omega
           obtain ⟨k', rfl⟩ : ∃ k', k = k' + 1 := ⟨k - 1, by simp only [List.length_cons] at g3; omega⟩
           have hpz : pz (k' + 1) (c :: t) = (rS (c :: t)).bind fun p => if p.1.length > 2000 then none else (pz k' p.2).map (p.1 :: ·) := rfl
           generalize (c :: t : Txt) = rest at g1 g3 g4 hgt hpz
           rw [hpz] at g4
           have c38 := w20 rest (by omega)
           have hbad : pz n bytes = none → ∀ r, r.fz.nrm = .tup [lst 1 (strs []), .int .i64 22] → S r := by
             intro hp; rw [hp] at hS; exact hS
           simp only [hgt, strs_len, Qs, if_true, Nat.reduceBEq, vv f19r18.eq_1, uu f19b19.eq_1, uu f19b20.eq_1, uu f19b21.eq_1, vv f19r22.eq_1, uu f19b23.eq_1, uu f19b24.eq_1]
           refine zJ c38 ?_ (hr := sR _)
           cases hs : rS rest with
           | none =>
             rw [hs] at g4
             have hb2 := hbad (by rw [← g4]; rfl)
             simp only [wE, Qs, sJ, if_true, bne_iff_ne, ne_eq, List.append_nil, List.nodup_nil, List.nodup_cons, Nat.reduceEqDiff, Nat.reduceBEq, List.not_mem_nil, vv f19r12.eq_1, uu f19b13.eq_1, uu f19b14.eq_1, vv f19r15.eq_1, uu f19b16.eq_1, uu f19b17.eq_1]
             exact uT hb2 (l := []) rfl rfl rfl
           | some p =>
             obtain ⟨s, r⟩ := p
             rw [hs] at g4
             have h1 := ((q8 rest s r).1 hs).2
             have h2' : 2 ≤ (wS s).length := nK ((q8 rest s r).1 hs).1
             have hrl : r.length + 2 ≤ rest.length := by rw [h1, List.length_append]; omega
             simp only [Option.bind_some] at g4
             by_cases h5 : (s.length : Int) > 2000
             · rw [if_pos (show s.length > 2000 by omega)] at g4
               have hb2 := hbad (by rw [← g4]; rfl)
               simp only [h5, wE, Qs, if_true, if_false, bne_iff_ne, ne_eq, List.append_nil, List.nodup_nil, List.nodup_cons, Nat.reduceEqDiff, Nat.reduceBEq, List.not_mem_nil, vv f19r12.eq_1, uu f19b13.eq_1, uu f19b14.eq_1, vv f19r15.eq_1, uu f19b16.eq_1, uu f19b17.eq_1]
               exact uT hb2 (l := []) rfl rfl rfl
             · rw [if_neg (show ¬ s.length > 2000 by omega)] at g4
               have g4' : (pz k' r).map ((acc ++ [s]) ++ ·) = pz n bytes := by
                 rw [← g4]
                 cases pz k' r <;> simp
               simp only [h5, wE, uC, strs_len, Qs, ze3, if_true, if_false, forall_eq, bne_iff_ne, ne_eq, List.mem_cons, Nat.reduceEqDiff, Nat.reduceLeDiff, Nat.reduceLT, Nat.reduceBEq, List.not_mem_nil, vv f19r9.eq_1, vv f19r10.eq_1, uu f19b11.eq_1, uu f19b14.eq_1, vv f19r15.eq_1, uu f19b16.eq_1, uu f19b17.eq_1]
               have e : nlApp (some true) (strs (acc ++ [s])) = some false := by cases acc <;> rfl
               exact ⟨by omega, by omega, Next.intro (acc ++ [s], r) rfl (by simp only [e]; rfl) ⟨by show (acc ++ [s]).length + r.length ≤ bytes.length; rw [List.length_append, List.length_singleton]; omega, k', by show r.length ≤ k'; omega, g4'⟩ (by show r.length < rest.length; omega)⟩
 · have hr1 : (yV ⟨secs, pend, left, down⟩ != 0) = true := by simpa using hr
   simp only [hr1, zA, zB, Qs, if_true, bne_iff_ne, ne_eq, BEq.rfl, List.append_nil, List.nodup_nil, List.nodup_cons, Nat.reduceEqDiff, Nat.reduceBEq, List.not_mem_nil, vv f19r48.eq_1, uu f19b49.eq_1, uu f19b50.eq_1, vv f19r51.eq_1, uu f19b52.eq_1, uu f19b53.eq_1]
   rw [if_pos hr] at hS
   exact uT hS (l := []) rfl rfl rfl
theorem z7 (d : Disk) (h : Right d) : Spec Tryz.prog 34 [dV d] (fun r => r = zI (formatJ d)) := by
 refine Spec.of_awlP hf34 okf34 (by simp) fun S hS => ?_
 have c22 := z22 d h
 obtain ⟨secs, pend, left, down⟩ := d
 unfold formatJ at hS
 simp only [dV, zD] at *
 simp only [zA, zB, Qs, if_true, bne_iff_ne, ne_eq, Nat.reduceAdd, Nat.reduceEqDiff, Nat.reduceBEq, uu f34.eq_1, vv f34r19.eq_1, uu f34b20.eq_1, vv f34r21.eq_1, uu f34b22.eq_1]
 refine zJ c22 ?_
 by_cases hr : yV ⟨secs, pend, left, down⟩ = 0
 · rw [if_neg (by simp [hr])] at hS
   by_cases h2 : (secs.length : Int) < 3
   · simp only [hr, h2, strs_len, zA, zB, Qs, if_true, if_false, List.append_nil, List.nodup_nil, Nat.reduceAdd, Nat.reduceLeDiff, Nat.reduceLT, Nat.reduceBEq, Int.reduceBNe, vv f34r7.eq_1, uu f34b8.eq_1, uu f34b9.eq_1, vv f34r10.eq_1, uu f34b11.eq_1, uu f34b12.eq_1, uu f34b15.eq_1, vv f34r16.eq_1, uu f34b17.eq_1, uu f34b18.eq_1]
     rw [if_pos (show secs.length ≤ 2 by omega)] at hS
     exact zS hS (secs := []) (pend := []) rfl rfl rfl
   · rw [if_neg (show ¬ secs.length ≤ 2 by omega)] at hS
     obtain ⟨hdn, hpd⟩ := iD hr
     simp only [] at hdn hpd
     subst hdn hpd
     have hlen : (hdr 0).length = 16 := x9 0
     have hR1 := wL h (i := 0) (by omega) (by omega) hlen (by simp)
     have hR2 := wL hR1 (i := 1) (by omega) (by omega) hlen (by simp)
     have w1 := xO (d := ⟨secs, [], left, false⟩) (i := 0) (s := hdr 0) rfl (by omega) (by show (0 : Int) < secs.length; omega) (by omega) (by simp)
     have w2 := xO (d := ⟨secs, [] ++ [⟨0, hdr 0⟩], left, false⟩) (i := 1) (s := hdr 0) rfl (by omega) (by show (1 : Int) < secs.length; omega) (by omega) (by simp)
     rw [rX] at w1 w2
     have c1 := z15 _ h 0 (hdr 0)
     have c2 := z15 _ hR1 1 (hdr 0)
     have c3 := z24 _ hR2
     rw [w1] at c1
     rw [w2] at c2
     rw [w1] at hS
     simp only [] at hS
     rw [w2] at hS
     simp only [zI, dV, zD] at c1 c2 c3
     simp only [hr, h2, strs_len, zA, zB, Qs, oY, if_true, if_false, bne_iff_ne, ne_eq, Nat.reduceAdd, Nat.reduceEqDiff, Nat.reduceLeDiff, Nat.reduceBEq, Int.reduceBNe, vv f34r5o0.eq_1, vv f34r5o1.eq_1, vv f34r5o2.eq_1, vv f34r5o3.eq_1, vv f34r5o4.eq_1, vv f34r5o5.eq_1, vv f34r5o6.eq_1, vv f34r5o7.eq_1, vv f34r5o8.eq_1, zls, uu f34b6.eq_1, uu f34b9.eq_1, vv f34r10.eq_1, uu f34b11.eq_1, uu f34b12.eq_1, uu f34b15.eq_1, vv f34r16.eq_1, uu f34b17.eq_1, uu f34b18.eq_1]
     refine sQ (r14 0 (by omega)) ?_
     simp only [V.fz, Abs.K.fz, zA, zB, Qs, Nat.reduceBEq]
     refine uE c1 ?_ rfl (by simp [zH, V.norm, C.normRow, dV, zD, z6, xK, zA, zB]) rfl
     simp only [zA, zB, Qs, oY, if_true, bne_iff_ne, ne_eq, List.append_nil, Nat.reduceAdd, Nat.reduceEqDiff, Nat.reduceBEq, vv f34r3o0.eq_1, vv f34r3o1.eq_1, vv f34r3o2.eq_1, vv f34r3o3.eq_1, vv f34r3o4.eq_1, vv f34r3o5.eq_1, vv f34r3o6.eq_1, vv f34r3o7.eq_1, vv f34r3o8.eq_1, zlr, uu f34b4.eq_1]
     refine sQ (r14 0 (by omega)) ?_
     simp only [V.fz, Abs.K.fz, zA, zB, Qs, Nat.reduceBEq]
     refine uE c2 ?_ rfl (by simp [zH, V.norm, C.normRow, dV, zD, z6, xK, zA, zB]) rfl
     simp only [zA, zB, Qs, if_true, List.append_nil, Nat.reduceAdd, Nat.reduceBEq, vv f34r1.eq_1, uu f34b2.eq_1]
     refine zT c3 ?_
     generalize flushD ⟨secs, [] ++ [⟨0, hdr 0⟩] ++ [⟨1, hdr 0⟩], left, false⟩ = y at hS ⊢
     obtain ⟨⟨s4, p4, l4, d4⟩, e4⟩ := y
     simp only [zI, dV, zD, zA, zB, Qs, if_true, List.append_nil, List.nodup_nil, Nat.reduceAdd, Nat.reduceMul, Nat.reduceLT, Nat.reduceBEq]
     exact zS hS (yR _) (yJ _) rfl
 · have hr1 : (yV ⟨secs, pend, left, down⟩ != 0) = true := by simpa using hr
   simp only [hr1, zA, zB, Qs, if_true, List.append_nil, List.nodup_nil, Nat.reduceAdd, Nat.reduceLT, Nat.reduceBEq, vv f34r13.eq_1, uu f34b14.eq_1, uu f34b15.eq_1, vv f34r16.eq_1, uu f34b17.eq_1, uu f34b18.eq_1]
   rw [if_pos hr] at hS
   exact zS hS (secs := []) (pend := []) rfl rfl rfl
theorem zh3 : ∀ (k : Nat) (b : Txt) (l : List Txt), pz k b = some l → b = wN wS l ∧ ∀ s ∈ l, s.length ≤ 2000
 | _, [], l, h => by
   have : l = [] := by cases ‹Nat› <;> simpa [pz] using h.symm
   subst this; exact ⟨rfl, by simp⟩
 | 0, _ :: _, l, h => by simp [pz] at h
 | k + 1, c :: t, l, h => by
   have hpz : pz (k + 1) (c :: t) = (rS (c :: t)).bind fun p => if p.1.length > 2000 then none else (pz k p.2).map (p.1 :: ·) := rfl
   rw [hpz] at h
   cases hs : rS (c :: t) with
   | none => rw [hs] at h; cases h
   | some p =>
     obtain ⟨s, r⟩ := p
     rw [hs] at h
     simp only [Option.bind_some] at h
     by_cases h5 : s.length > 2000
     · rw [if_pos h5] at h; cases h
     · rw [if_neg h5] at h
       cases hr : pz k r with
       | none => rw [hr] at h; cases h
       | some l2 =>
         rw [hr] at h
         simp only [Option.map_some, Option.some.injEq] at h
         subst h
         obtain ⟨e1, e2⟩ := zh3 k r l2 hr
         have h1 := ((q8 _ s r).1 hs).2
         have e := q9 wS [s] l2
         rw [List.singleton_append, nO] at e
         refine ⟨by rw [h1, e, e1], fun x hx => ?_⟩
         rcases List.mem_cons.1 hx with rfl | hx
         · omega
         · exact e2 x hx
theorem znd (d : Disk) (h : Right d) (h0 : (readJ d).2 = 0) : (readJ d).1.bytes = wN wS (readJ d).1.list ∧ (∀ s ∈ (readJ d).1.list, s.length ≤ 2000) ∧ (readJ d).1.list.length ≤ 500 ∧ (readJ d).1.cur = rZ d ∧ ∃ n, (readJ d).1.bytes = (logD d).take n := by
 unfold readJ rZ at *
 by_cases hr : yV d = 0
 · rw [if_neg (by simp [hr])] at h0 ⊢
   by_cases h2 : d.secs.length ≤ 2
   · rw [if_pos h2] at h0; simp at h0
   · rw [if_neg h2] at h0 ⊢
     cases hc : xS (yF (d.secs.getD 0 [])) (yF (d.secs.getD 1 [])) with
     | none => rw [hc] at h0; simp at h0
     | some p =>
       obtain ⟨c, n⟩ := p
       rw [hc] at h0
       simp only [] at h0 ⊢
       by_cases h3 : n > (logD d).length
       · rw [if_pos h3] at h0; simp at h0
       · rw [if_neg h3] at h0 ⊢
         cases hp : pz n ((logD d).take n) with
         | none => rw [hp] at h0; simp at h0
         | some l =>
           rw [hp] at h0
           simp only [] at h0 ⊢
           obtain ⟨e1, e2⟩ := zh3 _ _ _ hp
           by_cases h4 : l.length > 500
           · rw [if_pos h4] at h0; simp at h0
           · rw [if_neg h4]
             exact ⟨e1, e2, by simp only []; omega, rfl, n, rfl⟩
 · rw [if_pos hr] at h0; exact absurd h0 hr
theorem zh4 : ∀ (l : List Txt) (i j : Nat) (hl : ∀ s ∈ l, s.length = 16) (hi : i < l.length) (hj : j < 16), l.flatten.getD (16 * i + j) 0 = (l[i]).getD j 0
 | s :: l, 0, j, hl, hi, hj => by
   have := hl s List.mem_cons_self
   rw [List.flatten_cons]
   simp only [List.getD_eq_getElem?_getD, List.getElem_cons_zero]
   rw [List.getElem?_append_left (by omega)]
   simp
 | s :: l, i + 1, j, hl, hi, hj => by
   have h16 := hl s List.mem_cons_self
   have ih := zh4 l i j (fun x hx => hl x (List.mem_cons_of_mem _ hx)) (by simpa using hi) hj
   rw [List.flatten_cons]
   simp only [List.getD_eq_getElem?_getD, List.getElem_cons_succ] at ih ⊢
   rw [List.getElem?_append_right (by omega), h16, show 16 * (i + 1) + j - 16 = 16 * i + j by omega]
   exact ih
theorem zh5 {s : Txt} {a : Nat} (h : a < s.length) : List.drop a (List.take (a + 1) s) = [s.getD a 0] := by
 rw [List.drop_take, show a + 1 - a = 1 by omega, List.drop_eq_getElem_cons h, List.take_succ_cons, List.take_zero]
 simp [h]
theorem zne {all : Txt} {a k : Nat} (h1 : a ≤ k) (h2 : k < all.length) : (all.drop a).take (k - a) ++ [all.getD k 0] = (all.drop a).take (k + 1 - a) := by
 rw [show k + 1 - a = (k - a) + 1 by omega, List.take_add_one, List.getElem?_drop, show a + (k - a) = k by omega, List.getElem?_eq_getElem h2]
 simp [h2]
theorem z8 (d : Disk) (h : Right d) (s : Txt) (hs : s.length ≤ 1000000000) : Spec Tryz.prog 40 [dV d, .str s] (fun r => r = zI (appendJ d s)) := by
 refine Spec.of_awlP hf40 okf40 (by simp) fun S hS => ?_
 have c16 := z16 d h
 have c26 := w12 s (by omega)
 have c27 := z27 d h
 unfold appendJ at hS
 obtain ⟨hb, hrd⟩ := iF d h
 have hmore := znd d h
 have hll := iE h
 have hlg := pD (d.secs.drop 2) fun x hx => h.se x (List.mem_of_mem_drop hx)
 rw [List.length_drop] at hlg
 generalize hcu : rZ d = cu at hmore c27
 generalize readJ d = x at c16 hS hb hrd hmore
 obtain ⟨⟨xl, xb, xc⟩, xe⟩ := x
 have hse := h.se
 have hhi := h.hi
 obtain ⟨secs, pend, left, down⟩ := d
 simp only [dV, zD] at *
 simp only [zA, zB, Qs, if_true, bne_iff_ne, ne_eq, Nat.reduceAdd, Nat.reduceEqDiff, Nat.reduceBEq, uu f40.eq_1, vv f40r79.eq_1, uu f40b80.eq_1, vv f40r81.eq_1, uu f40b82.eq_1]
 refine zT c16 ?_
 simp only [zA, zB, Qs, if_true, List.append_nil, List.nodup_nil, Nat.reduceAdd, Nat.reduceMul, Nat.reduceLT, Nat.reduceBEq, vv f40r65.eq_1, uu f40b66.eq_1, vv f40r67.eq_1, uu f40b68.eq_1, uu f40b69.eq_1, vv f40r70.eq_1, uu f40b71.eq_1, uu f40b72.eq_1, vv f40r73.eq_1, uu f40b74.eq_1, uu f40b75.eq_1, vv f40r76.eq_1, uu f40b77.eq_1, uu f40b78.eq_1]
 have hws := zho (s := s) (by omega)
 have hw2 := nK (s := s) (by show s.length ≤ 9223372036854775807; omega)
 by_cases he : xe = 0
 · subst he
   obtain ⟨hc, hdn, hpd, h2⟩ := hrd rfl
   obtain ⟨m1, m2, m3, m4, n, m5⟩ := hmore rfl
   subst hdn hpd m4
   rw [if_neg (by simp)] at hS
   by_cases h1 : (s.length : Int) > 2000
   · rw [if_pos (show s.length > 2000 by omega)] at hS
     simp only [h1, zA, zB, Qs, forall_const, Int.reduceBNe]
     exact zS hS (secs := []) (pend := []) rfl rfl rfl
   · rw [if_neg (show ¬ s.length > 2000 by omega)] at hS
     have c25 := z25 xl m2 (by rw [← m1]; omega)
     rw [← m1] at c25
     have w2 : IntKind.i64.wrap ((secs.length : Int) - 2) = (secs.length : Int) - 2 := wrap_in (by omega) (by omega)
     have w3 : IntKind.i64.wrap (16 * ((secs.length : Int) - 2)) = 16 * ((secs.length : Int) - 2) := wrap_in (by omega) (by omega)
     have w4 : IntKind.i64.wrap ((xb.length : Int).tdiv 16) = ((xb.length / 16 : Nat) : Int) := by
       rw [Int.tdiv_eq_ediv_of_nonneg (by omega), wrap_in (by omega) (by omega)]; omega
     have w5 : IntKind.i64.wrap ((xb.length : Int) + ((wS s).length : Int)) = (((xb ++ wS s).length : Nat) : Int) := by rw [List.length_append, wrap_in (by omega) (by omega)]; omega
     simp only [h1, zA, zB, Qs, forall_const, Int.reduceBNe]
     refine zJ c25 ?_
     simp only [zA, zB, Qs, Nat.reduceBEq, vv f40r63.eq_1, uu f40b64.eq_1]
     refine zJ c26 ?_
     simp only [h1, w2, w3, w4, w5, strs_len, zA, zB, Qs, if_true, if_false, List.append_nil, List.nodup_nil, Nat.reduceAdd, Nat.reduceLeDiff, Nat.reduceLT, Nat.reduceBEq, vv f40r53.eq_1, uu f40b54.eq_1, vv f40r55.eq_1, uu f40b56.eq_1, uu f40b57.eq_1, vv f40r58.eq_1, uu f40b59.eq_1, uu f40b60.eq_1, vv f40r61.eq_1, uu f40b62.eq_1]
     refine ⟨fun g => ?_, fun g => ⟨fun g2 => ?_, fun g2 => ?_⟩⟩
     · rw [if_pos (.inl (by omega))] at hS
       exact zS hS (secs := []) (pend := []) rfl rfl rfl
     · rw [if_pos (.inr (by omega))] at hS
       exact zS hS (secs := []) (pend := []) rfl rfl rfl
     · rw [if_neg (by omega)] at hS
       have hfit : (xb ++ wS s).length ≤ (secs.length - 2) * 16 := by omega
       have hlen2 : (xb ++ wS s).length = xb.length + (wS s).length := List.length_append
       have hat : xb.length / 16 ≤ 512 := by omega
       have hal : (xb ++ wS s).length ≤ 100000 := by omega
       refine zJ (c27 (by omega)) ?_
       simp only [h1, w2, w3, w4, w5, strs_len, zA, zB, Qs, sI, if_true, bne_iff_ne, ne_eq, List.append_nil, Nat.reduceAdd, Nat.reduceEqDiff, Nat.reduceBEq, Int.reduceEq, uu f40b47.eq_1, vv f40r48.eq_1, uu f40b49.eq_1, uu f40b50.eq_1, vv f40r51.eq_1, uu f40b52.eq_1]
       rw [zlw]
       refine zU (fun x : Nat × Disk => [(2, .k (.ptr 2 0)), (4, .k (.ptr 4 0)), (8, .int .i64 xb.length), (9, .str (wS s)), (10, .int .i64 (xb ++ wS s).length), (11, .int .i64 xc), (12, .k (.ptr 12 0)), (13, .int .i64 x.1)])
         (fun x => [(2, yN secs [] left false), (4, .var 25 [.c (.list 0 (some true) []), .c (.list 0 (some true) []), .c (.int .i64 0), .c (.bool false)]), (12, yN x.2.secs x.2.pend x.2.left x.2.down)])
         (fun x => xb.length / 16 ≤ x.1 ∧ Right x.2 ∧ x.2.down = false ∧ x.2.secs.length = secs.length ∧ x.2.pend.length ≤ x.1 ∧ x.1 ≤ 512 + (xb ++ wS s).length ∧ ∃ k, (xb ++ wS s).length ≤ 16 * (x.1 + k) ∧ xB (xb ++ wS s) k x.1 x.2 = xB (xb ++ wS s) (xb ++ wS s).length (xb.length / 16) ⟨secs, [], left, false⟩)
         (fun x => (xb ++ wS s).length + 1 - x.1) (xb.length / 16, ⟨secs, [], left, false⟩) rfl rfl ⟨Nat.le_refl _, h, rfl, rfl, by simp, by omega, (xb ++ wS s).length, by simp only []; omega, rfl⟩ ?_
       rintro ⟨j, secs2, pend2, left2, down2⟩ ⟨g0, g1, g2', g3, g4, g5, k, g6, g7⟩
       simp only [] at g0 g2' g3 g4 g5 g6 g7
       subst g2'
       have w5 : IntKind.i64.wrap (16 * (j : Int)) = 16 * (j : Int) := wrap_in (by omega) (by omega)
       by_cases hlt : 16 * j < (xb ++ wS s).length
       · have c1 : 16 * (j : Int) < ((xb ++ wS s).length : Int) := by omega
         have w6 : IntKind.i64.wrap (2 + (j : Int)) = 2 + (j : Int) := wrap_in (by omega) (by omega)
         have w7 : IntKind.i64.wrap ((j : Int) + 1) = (j : Int) + 1 := wrap_in (by omega) (by omega)
         have w8 : IntKind.i64.wrap (16 * (j : Int) + 16) = 16 * (j : Int) + 16 := wrap_in (by omega) (by omega)
         simp only [w5, w6, w7, w8, c1, Qs, if_true, Nat.reduceBEq, vv f40r13.eq_1, uu f40b34.eq_1, vv f40r35.eq_1, uu f40b36.eq_1, uu f40b37.eq_1, vv f40r38.eq_1, uu f40b39.eq_1, uu f40b40.eq_1, uu f40b41.eq_1, uu f40b42.eq_1, vv f40r43.eq_1, uu f40b44.eq_1, uu f40b45.eq_1]
         rw [zlv]
         refine zU (fun x : Nat => [(2, .k (.ptr 2 0)), (4, .k (.ptr 4 0)), (8, .int .i64 xb.length), (9, .str (wS s)), (10, .int .i64 (xb ++ wS s).length), (11, .int .i64 xc), (12, .k (.ptr 12 0)), (13, .int .i64 j), (14, .str (((xb ++ wS s).drop (16 * j)).take (x - 16 * j))), (15, .int .i64 x)])
           (fun x => [(2, yN secs [] left false), (4, .var 25 [.c (.list 0 (some true) []), .c (.list 0 (some true) []), .c (.int .i64 0), .c (.bool false)]), (12, yN secs2 pend2 left2 false)])
           (fun x => 16 * j ≤ x ∧ x ≤ 16 * j + 16 ∧ x ≤ (xb ++ wS s).length) (fun x => 16 * j + 16 - x) (16 * j) (by simp [keepT, lookT]) rfl ⟨Nat.le_refl _, by omega, by omega⟩ ?_
         rintro x ⟨f1, f2, f3⟩
         have w10 : IntKind.i64.wrap ((x : Int) + 1) = (x : Int) + 1 := wrap_in (by omega) (by omega)
         have tm : (x : Int).tmod 16 = ((x % 16 : Nat) : Int) := by rw [Int.tmod_eq_emod_of_nonneg (by omega)]; omega
         have w11' : IntKind.i64.wrap (((x % 16 : Nat) : Int) + 1) = ((x % 16 + 1 : Nat) : Int) := by rw [wrap_in (by omega) (by omega)]; omega
         by_cases hx : x < 16 * j + 16
         · have d1 : (x : Int) < 16 * (j : Int) + 16 := by omega
           by_cases hx2 : x < (xb ++ wS s).length
           · have d2 : (x : Int) < ((xb ++ wS s).length : Int) := by omega
             have hst := zne (all := xb ++ wS s) (a := 16 * j) (k := x) f1 hx2
             by_cases hx3 : x < xb.length
             · have d3 : (x : Int) < (xb.length : Int) := by omega
               have d4 : 2 + j < secs.length := by omega
               have d5 : ((2 + j : Nat) : Int) < secs.length := by omega
               have d6 : (2 : Int) + (j : Int) = ((2 + j : Nat) : Int) := by omega
               rw [d6] at w6
               have hsl := hse _ (List.getElem_mem d4)
               simp only [d1, d2, d3, d5, d6, w5, w6, w8, w10, w11', tm, zX d4, strs_len, zA, Qs, rK, if_true, if_false, ne_eq, Nat.reduceAdd, Nat.reduceLeDiff, Nat.reduceBEq, Int.reduceEq, vv f40r21.eq_1, vv f40r22.eq_1, vv f40r23.eq_1, uu f40b24.eq_1, vv f40r25.eq_1, uu f40b26.eq_1, uu f40b27.eq_1, uu f40b28.eq_1, uu f40b29.eq_1, vv f40r30.eq_1, uu f40b31.eq_1, uu f40b32.eq_1]
               have q1 : x % 16 < secs[2 + j].length := by omega
               have q2 : (xb ++ wS s).getD x 0 = secs[2 + j].getD (x % 16) 0 := by
                 have hdl : j < (secs.drop 2).length := by rw [List.length_drop]; omega
                 have h3 := zh4 (secs.drop 2) j (x % 16) (fun y hy => hse y (List.mem_of_mem_drop hy)) hdl (by omega)
                 rw [show 16 * j + x % 16 = x by omega, List.getElem_drop] at h3
                 rw [← h3, List.getD_eq_getElem?_getD, List.getD_eq_getElem?_getD, List.getElem?_append_left hx3, m5]
                 have hx4 : x < n := by rw [m5, List.length_take] at hx3; omega
                 rw [List.getElem?_take_of_lt hx4]; rfl
               rw [zh5 q1, ← q2, hst]
               refine ⟨⟨by omega, by omega⟩, by rw [List.length_take, List.length_singleton]; omega, Next.intro (x + 1) rfl rfl ⟨by omega, by omega, by omega⟩ (by omega)⟩
             · have d3 : ¬ (x : Int) < (xb.length : Int) := by omega
               have w12 : IntKind.i64.wrap ((x : Int) - (xb.length : Int)) = ((x - xb.length : Nat) : Int) := by rw [wrap_in (by omega) (by omega)]; omega
               have w13 : IntKind.i64.wrap (((x - xb.length : Nat) : Int) + 1) = ((x - xb.length + 1 : Nat) : Int) := by rw [wrap_in (by omega) (by omega)]; omega
               simp only [d1, d2, d3, w5, w8, w10, w12, w13, strs_len, zA, Qs, if_true, Nat.reduceBEq, vv f40r21.eq_1, vv f40r22.eq_1, vv f40r23.eq_1, uu f40b24.eq_1, vv f40r25.eq_1, uu f40b26.eq_1, uu f40b27.eq_1, uu f40b28.eq_1, uu f40b29.eq_1, vv f40r30.eq_1, uu f40b31.eq_1, uu f40b32.eq_1]
               have q1 : x - xb.length < (wS s).length := by omega
               have q2 : (xb ++ wS s).getD x 0 = (wS s).getD (x - xb.length) 0 := by
                 rw [List.getD_eq_getElem?_getD, List.getD_eq_getElem?_getD, List.getElem?_append_right (by omega)]
               rw [zh5 q1, ← q2, hst]
               refine ⟨⟨by omega, by omega⟩, by rw [List.length_take, List.length_singleton]; omega, Next.intro (x + 1) rfl rfl ⟨by omega, by omega, by omega⟩ (by omega)⟩
           · have d2 : ¬ (x : Int) < ((xb ++ wS s).length : Int) := by omega
             simp only [d1, d2, w5, w8, w6, Qs, if_true, if_false, reduceCtorEq, Nat.reduceAdd, Nat.reduceBEq, Nat.succ_ne_self, vv f40r19.eq_1, uu f40b20.eq_1, uu f40b29.eq_1, vv f40r30.eq_1, uu f40b31.eq_1, uu f40b32.eq_1]
             rw [show ((xb ++ wS s).drop (16 * j)).take (x - 16 * j) = ((xb ++ wS s).drop (16 * j)).take 16 by rw [show x = (xb ++ wS s).length by omega, List.take_of_length_le (by rw [List.length_drop]; omega), List.take_of_length_le (by rw [List.length_drop]; omega)]]
             obtain ⟨k, rfl⟩ : ∃ k', k = k' + 1 := ⟨k - 1, by omega⟩
             rw [xB, if_pos hlt] at g7
             have hch : (((xb ++ wS s).drop (16 * j)).take 16).length ≤ 16 := by rw [List.length_take]; omega
             generalize ((xb ++ wS s).drop (16 * j)).take 16 = ch at g7 hch ⊢
             have hw := xO (d := ⟨secs2, pend2, left2, false⟩) (i := 2 + (j : Int)) (s := ch) rfl (by omega) (by show 2 + (j : Int) < secs2.length; omega) hch (by show pend2.length < 512; omega)
             have hp := wL (i := 2 + (j : Int)) (t := pad ch) g1 (by omega) (by omega) (vM hch) (by omega)
             have c15 := z15 _ g1 (2 + (j : Int)) ch
             rw [hw] at g7 c15
             simp only [zI, dV, zD] at c15
             refine zT c15 ?_
             simp only [zA, zB, w7, Qs, if_true, List.append_nil, Nat.reduceAdd, Nat.reduceMul, Nat.reduceBEq, Int.reduceBNe, uu f40b16.eq_1, vv f40r17.eq_1, uu f40b18.eq_1]
             exact Next.intro (j + 1, ⟨secs2, pend2 ++ [⟨2 + (j : Int), pad ch⟩], left2, false⟩) rfl rfl ⟨by show xb.length / 16 ≤ j + 1; omega, hp, rfl, g3, by show (pend2 ++ [_]).length ≤ j + 1; rw [List.length_append, List.length_singleton]; omega, by show j + 1 ≤ 512 + (xb ++ wS s).length; omega, k, by show (xb ++ wS s).length ≤ 16 * (j + 1 + k); omega, g7⟩ (by show (xb ++ wS s).length + 1 - (j + 1) < (xb ++ wS s).length + 1 - j; omega)
         · have d1 : ¬ (x : Int) < 16 * (j : Int) + 16 := by omega
           simp only [d1, w5, w8, w6, Qs, if_true, if_false, reduceCtorEq, Nat.reduceAdd, Nat.reduceBEq, Nat.succ_ne_self, vv f40r19.eq_1, uu f40b20.eq_1, uu f40b29.eq_1, vv f40r30.eq_1, uu f40b31.eq_1, uu f40b32.eq_1]
           rw [show ((xb ++ wS s).drop (16 * j)).take (x - 16 * j) = ((xb ++ wS s).drop (16 * j)).take 16 by rw [show x - 16 * j = 16 by omega]]
           obtain ⟨k, rfl⟩ : ∃ k', k = k' + 1 := ⟨k - 1, by omega⟩
           rw [xB, if_pos hlt] at g7
           have hch : (((xb ++ wS s).drop (16 * j)).take 16).length ≤ 16 := by rw [List.length_take]; omega
           generalize ((xb ++ wS s).drop (16 * j)).take 16 = ch at g7 hch ⊢
           have hw := xO (d := ⟨secs2, pend2, left2, false⟩) (i := 2 + (j : Int)) (s := ch) rfl (by omega) (by show 2 + (j : Int) < secs2.length; omega) hch (by show pend2.length < 512; omega)
           have hp := wL (i := 2 + (j : Int)) (t := pad ch) g1 (by omega) (by omega) (vM hch) (by omega)
           have c15 := z15 _ g1 (2 + (j : Int)) ch
           rw [hw] at g7 c15
           simp only [zI, dV, zD] at c15
           refine zT c15 ?_
           simp only [zA, zB, w7, Qs, if_true, List.append_nil, Nat.reduceAdd, Nat.reduceMul, Nat.reduceBEq, Int.reduceBNe, uu f40b16.eq_1, vv f40r17.eq_1, uu f40b18.eq_1]
           exact Next.intro (j + 1, ⟨secs2, pend2 ++ [⟨2 + (j : Int), pad ch⟩], left2, false⟩) rfl rfl ⟨by show xb.length / 16 ≤ j + 1; omega, hp, rfl, g3, by show (pend2 ++ [_]).length ≤ j + 1; rw [List.length_append, List.length_singleton]; omega, by show j + 1 ≤ 512 + (xb ++ wS s).length; omega, k, by show (xb ++ wS s).length ≤ 16 * (j + 1 + k); omega, g7⟩ (by show (xb ++ wS s).length + 1 - (j + 1) < (xb ++ wS s).length + 1 - j; omega)
       · have c1 : ¬ 16 * (j : Int) < ((xb ++ wS s).length : Int) := by omega
         have g8 : xB (xb ++ wS s) k j ⟨secs2, pend2, left2, false⟩ = ⟨secs2, pend2, left2, false⟩ := by
           cases k with
           | zero => rfl
           | succ k => rw [xB, if_neg hlt]
         rw [g8] at g7
         rw [← g7] at hS
         have c24 := z24 _ g1
         simp only [dV, zD] at c24
         simp only [w5, c1, zA, zB, Qs, if_true, Nat.reduceAdd, Nat.reduceBEq, vv f40r11.eq_1, uu f40b12.eq_1, uu f40b42.eq_1, vv f40r43.eq_1, uu f40b44.eq_1, uu f40b45.eq_1]
         refine zT c24 ?_
         obtain ⟨hRf, hzf⟩ := nY g1 rfl
         generalize flushD ⟨secs2, pend2, left2, false⟩ = x at hS hRf hzf ⊢
         obtain ⟨⟨s3, p3, l3, d3⟩, e3⟩ := x
         simp only [] at hS hRf hzf
         by_cases hz : e3 = 0
         · subst hz
           obtain ⟨z1, z2, z3⟩ := hzf rfl
           subst z1 z2
           rw [if_neg (by simp)] at hS
           have w9 : IntKind.i64.wrap (1 - xc) = 1 - xc := wrap_in (by omega) (by omega)
           have hhl := x9 (xb ++ wS s).length
           have hw := xO (d := ⟨s3, [], l3, false⟩) (i := 1 - xc) (s := hdr (xb ++ wS s).length) rfl (by omega) (by show 1 - xc < s3.length; omega) (by omega) (by simp)
           have hp := wL (i := 1 - xc) (t := pad (hdr (xb ++ wS s).length)) hRf (by omega) (by omega) (vM (by omega)) (by simp)
           rw [hw] at hS
           simp only [zI, dV, zD, zA, zB, w9, Qs, if_true, List.append_nil, Nat.reduceAdd, Nat.reduceMul, Nat.reduceBEq, Int.reduceBNe, vv f40r3o0.eq_1, vv f40r3o1.eq_1, vv f40r3o2.eq_1, vv f40r3o3.eq_1, vv f40r3o4.eq_1, vv f40r3o5.eq_1, vv f40r3o6.eq_1, vv f40r3o7.eq_1, vv f40r3o8.eq_1, vv f40r3o9.eq_1, zgW, uu f40b4.eq_1, uu f40b7.eq_1, vv f40r8.eq_1, uu f40b9.eq_1, uu f40b10.eq_1]
           refine sQ (r14 (xb ++ wS s).length (by omega)) ?_
           simp only [V.fz, Abs.K.fz, zA, zB, w9, Qs, Nat.reduceBEq]
           refine uE (z15 _ hRf (1 - xc) (hdr (xb ++ wS s).length)) ?_ rfl (by simp [zH, V.norm, C.normRow, dV, zD, z6, xK, zA, zB]) rfl
           rw [hw]
           have c24' := z24 _ hp
           simp only [dV, zD] at c24'
           simp only [zI, dV, zD, zA, zB, w9, Qs, if_true, List.append_nil, Nat.reduceAdd, Nat.reduceBEq, vv f40r1.eq_1, uu f40b2.eq_1]
           refine zT c24' ?_
           simp only [List.nil_append] at hS ⊢
           generalize flushD ⟨s3, [⟨1 - xc, pad (hdr (xb ++ wS s).length)⟩], l3, false⟩ = y at hS ⊢
           obtain ⟨⟨s4, p4, l4, d4⟩, e4⟩ := y
           simp only [zI, dV, zD, zA, zB, Qs, if_true, List.append_nil, List.nodup_nil, Nat.reduceAdd, Nat.reduceMul, Nat.reduceLT, Nat.reduceBEq]
           exact zS hS (yR _) (yJ _) rfl
         · rw [if_pos hz] at hS
           simp only [zI, dV, zD, hz, zA, zB, Qs, if_true, forall_const, List.append_nil, List.nodup_nil, Nat.reduceAdd, Nat.reduceMul, Nat.reduceLT, Nat.reduceBEq, vv f40r3o0.eq_1, vv f40r3o1.eq_1, vv f40r3o2.eq_1, vv f40r3o3.eq_1, vv f40r3o4.eq_1, vv f40r3o5.eq_1, vv f40r3o6.eq_1, vv f40r3o7.eq_1, vv f40r3o8.eq_1, vv f40r3o9.eq_1, zgW, uu f40b4.eq_1, vv f40r5.eq_1, uu f40b6.eq_1, uu f40b7.eq_1, vv f40r8.eq_1, uu f40b9.eq_1, uu f40b10.eq_1]
           exact zS hS (yR _) (yJ _) rfl
 · rw [if_pos he] at hS
   simp only [he, zA, zB, Qs, forall_const]
   exact zS hS (secs := []) (pend := []) rfl rfl rfl
def uU (x : Disk × Int) : Prop := (x.1 = y5 ∧ x.2 ≠ 0) ∨ Right x.1
theorem znf {d : Disk} (h : Right d) : uU (startD d) := by
 unfold startD
 by_cases h1 : d.down = true
 · rw [if_pos h1]
   exact .inr ⟨h.lo, h.hi, h.pe, h.l0, h.l1, fun e => absurd e (by simp), h.se, h.wr⟩
 · rw [if_neg h1]; exact .inl ⟨rfl, by decide⟩
theorem zh6 {d : Disk} (h : Right d) : uU (flushD d) := by
 by_cases h1 : d.down = true
 · left; unfold flushD; rw [if_pos h1]; exact ⟨rfl, by decide⟩
 · exact .inr (nY h (by simpa using h1)).1
theorem zh7 (all : Txt) : ∀ (k i : Nat) (d : Disk), Right d → d.down = false → all.length ≤ 16 * (d.secs.length - 2) → d.pend.length ≤ i → Right (xB all k i d) ∧ (xB all k i d).down = false ∧ (xB all k i d).secs.length = d.secs.length
 | 0, _, d, h, hu, _, _ => ⟨h, hu, rfl⟩
 | k + 1, i, d, h, hu, hl, hp => by
   rw [xB]
   by_cases hlt : 16 * i < all.length
   · rw [if_pos hlt]
     have hhi := h.hi
     obtain ⟨secs, pend, left, down⟩ := d
     simp only [] at hu hl hp hhi
     subst hu
     have hch : ((all.drop (16 * i)).take 16).length ≤ 16 := by rw [List.length_take]; omega
     have hp2 := wL h (i := 2 + (i : Int)) (by omega) (by omega) (vM hch) (by omega)
     rw [xO (d := ⟨secs, pend, left, false⟩) (i := 2 + (i : Int)) rfl (by omega) (by show 2 + (i : Int) < secs.length; omega) hch (by show pend.length < 512; omega)]
     exact zh7 all k (i + 1) _ hp2 rfl hl (by show (pend ++ [_]).length ≤ i + 1; rw [List.length_append, List.length_singleton]; omega)
   · rw [if_neg hlt]; exact ⟨h, hu, rfl⟩
theorem zng {d : Disk} (h : Right d) : uU (formatJ d) := by
 unfold formatJ
 by_cases hr : yV d = 0
 · rw [if_neg (by simp [hr])]
   by_cases h2 : d.secs.length ≤ 2
   · rw [if_pos h2]; exact .inl ⟨rfl, by decide⟩
   · rw [if_neg h2]
     obtain ⟨hdn, hpd⟩ := iD hr
     have hlen : (hdr 0).length = 16 := x9 0
     obtain ⟨secs, pend, left, down⟩ := d
     simp only [] at hdn hpd h2
     subst hdn hpd
     rw [xO (d := ⟨secs, [], left, false⟩) (i := 0) rfl (by omega) (by show (0 : Int) < secs.length; omega) (by omega) (by simp)]
     have hR1 := wL h (i := 0) (by omega) (by omega) (vM (s := hdr 0) (by omega)) (by simp)
     have hR2 := wL hR1 (i := 1) (by omega) (by omega) (vM (s := hdr 0) (by omega)) (by simp)
     simp only []
     rw [xO (d := ⟨secs, [] ++ [(⟨0, pad (hdr 0)⟩ : Wr)], left, false⟩) (i := 1) (s := hdr 0) rfl (by omega) (by show (1 : Int) < secs.length; omega) (by omega) (by simp)]
     exact zh6 hR2
 · rw [if_pos hr]; exact .inl ⟨rfl, hr⟩
theorem znh {d : Disk} (h : Right d) (s : Txt) : uU (appendJ d s) := by
 unfold appendJ
 obtain ⟨hb, hrd⟩ := iF d h
 by_cases he : (readJ d).2 = 0
 · rw [if_neg (by simp [he])]
   obtain ⟨hc, hdn, hpd, h2⟩ := hrd he
   by_cases h3 : s.length > 2000
   · rw [if_pos h3]; exact .inl ⟨rfl, by decide⟩
   · rw [if_neg h3]
     by_cases h4 : (readJ d).1.list.length = 500 ∨ ((readJ d).1.bytes ++ wS s).length > (d.secs.length - 2) * 16
     · rw [if_pos h4]; exact .inl ⟨rfl, by decide⟩
     · rw [if_neg h4]
       obtain ⟨hp, hpu, hps⟩ := zh7 ((readJ d).1.bytes ++ wS s) ((readJ d).1.bytes ++ wS s).length ((readJ d).1.bytes.length / 16) d h hdn (by omega) (by rw [hpd]; simp)
       obtain ⟨hf, hz⟩ := nY hp hpu
       simp only []
       by_cases h5 : (flushD (xB ((readJ d).1.bytes ++ wS s) ((readJ d).1.bytes ++ wS s).length ((readJ d).1.bytes.length / 16) d)).2 ≠ 0
       · rw [if_pos h5]; exact .inr hf
       · rw [if_neg h5]
         obtain ⟨z1, z2, z3⟩ := hz (by simpa using h5)
         have hhl := x9 ((readJ d).1.bytes ++ wS s).length
         rw [xO (s := hdr ((readJ d).1.bytes ++ wS s).length) z1 (by omega) (by omega) (by omega) (by rw [z2]; simp)]
         generalize flushD (xB ((readJ d).1.bytes ++ wS s) ((readJ d).1.bytes ++ wS s).length ((readJ d).1.bytes.length / 16) d) = y at hf z1 z2 z3 ⊢
         obtain ⟨⟨s3, p3, l3, d3⟩, e3⟩ := y
         simp only [] at hf z1 z2 z3 ⊢
         subst z1
         exact zh6 (wL hf (by omega) (by omega) (vM (by omega)) (by rw [z2]; simp))
 · rw [if_pos he]; exact .inl ⟨rfl, he⟩
theorem uU.small {x : Disk × Int} (h : uU x) : x.1.secs.length ≤ 512 ∧ x.1.pend.length ≤ 512 := by
 rcases h with ⟨h, _⟩ | h
 · rw [h]; exact ⟨by decide, by decide⟩
 · exact ⟨h.hi, h.pe⟩
theorem uU.good {x : Disk × Int} (h : uU x) (hx : x.2 = 0 ∨ x.2 = 8 ∧ x.1.secs ≠ []) : Right x.1 := by
 rcases h with ⟨h, h2⟩ | h
 · rcases hx with hx | ⟨_, hx⟩
   · exact absurd hx h2
   · rw [h] at hx; exact absurd rfl hx
 · exact h
end Go.Abs
set_option maxRecDepth 100000
set_option maxHeartbeats 4000000
namespace Go.Abs
open Go.Proofs Go.Wire Go.RowKit Go.Jr Go.Rg
def uF (l : List Txt) : List C := [lstC 1 (strs l)]
def lls (l : List (List Txt)) : List (List C) := l.map uF
theorem yA (l : List (List Txt)) : (lls l).length = l.length := by simp [lls]
theorem xG {l : List (List Txt)} {i : Nat} (h : i < l.length) : (lls l).getD i [] = [lstC 1 (strs l[i])] := by simp [lls, uF, h]
theorem zW (l : List (List Txt)) : C.normRows (lls l) = lls l := v8 (f := uF) (fun x => by simp only [uF, C.normRow, yR]) l
theorem v27 (l : List Txt) (s : Txt) : Spec Tryz.prog 27 [lst 1 (strs l), .str s] (fun r => r = .bool (decide (s ∈ l))) := by
 refine Spec.of_len hf27 fun hlen => ?_
 have hl := sP (sz := 1) (rows := strs l) List.mem_cons_self hlen
 rw [strs_len] at hl
 clear hlen
 refine Spec.of_awlS hf27 okf27 (by simp) fun S hS => ?_
 simp only [Qs, Nat.reduceAdd, uu f27.eq_1, uu f27b16.eq_1, vv f27r17.eq_1, uu f27b18.eq_1, uu f27b19.eq_1, vv f27r20.eq_1, uu f27b21.eq_1]
 rw [zlm]
 refine zU (fun i : Nat => [(0, lst 1 (strs l)), (1, .str s), (5, .int .i64 i)]) (fun _ => []) (fun i => i ≤ l.length ∧ s ∉ l.take i) (fun i => l.length - i) 0 rfl rfl ⟨Nat.zero_le _, by simp⟩ ?_
 rintro i ⟨hi, hn⟩
 by_cases hlt : i < l.length
 · have c1 : (i : Int) < l.length := by omega
   have c4 : IntKind.i64.wrap ((i : Int) + 1) = (i : Int) + 1 := wrap_in (by omega) (by omega)
   by_cases he : l[i] = s
   · simp only [c1, c4, he, strs_len, zX hlt, Qs, rL, if_true, BEq.rfl, List.nodup_nil, Nat.reduceBEq, vv f27r3.eq_1, vv f27r4.eq_1, uu f27b5.eq_1, uu f27b6.eq_1, vv f27r7.eq_1, uu f27b8.eq_1, uu f27b9.eq_1, uu f27b10.eq_1, uu f27b11.eq_1, vv f27r12.eq_1, uu f27b13.eq_1, uu f27b14.eq_1]
     refine fin hS ?_
     rw [decide_eq_true (by rw [← he]; exact List.getElem_mem hlt)]
   · have he' : (l[i] == s) = false := by simpa using he
     simp only [c1, c4, he', strs_len, zX hlt, Qs, rL, if_true, Nat.reduceBEq, vv f27r3.eq_1, uu f27b6.eq_1, vv f27r7.eq_1, uu f27b8.eq_1, uu f27b9.eq_1, uu f27b10.eq_1, uu f27b11.eq_1, vv f27r12.eq_1, uu f27b13.eq_1, uu f27b14.eq_1]
     refine Next.intro (i + 1) rfl rfl ⟨by omega, ?_⟩ (by omega)
     rw [List.take_add_one, List.getElem?_eq_getElem hlt]
     simp only [Option.toList_some, List.mem_append, List.mem_singleton, not_or]
     exact ⟨hn, fun e => he e.symm⟩
 · obtain rfl : i = l.length := by omega
   have c1 : ¬ (l.length : Int) < l.length := by omega
   simp only [c1, strs_len, Qs, if_true, List.nodup_nil, Nat.reduceBEq, vv f27r1.eq_1, uu f27b2.eq_1, uu f27b11.eq_1, vv f27r12.eq_1, uu f27b13.eq_1, uu f27b14.eq_1]
   rw [List.take_length] at hn
   refine fin hS ?_
   rw [decide_eq_false hn]
def vR : List Txt → Txt → Nat → Int
 | [], _, _ => -1
 | a :: l, s, i => if s = a then i else vR l s (i + 1)
theorem zni {l : List Txt} {i : Nat} (s : Txt) (h : i < l.length) : vR (l.drop i) s i = if s = l[i] then (i : Int) else vR (l.drop (i + 1)) s (i + 1) := by
 rw [List.drop_eq_getElem_cons h, vR]
theorem zh8 : ∀ (l : List Txt) (s : Txt) (i : Nat), vR l s i ≥ 0 ↔ s ∈ l
 | [], s, i => by simp [vR]
 | a :: l, s, i => by
   rw [vR]
   by_cases h : s = a
   · rw [if_pos h]; simp [h]
   · rw [if_neg h, zh8 l s (i + 1)]; simp [h]
theorem v67 (l : List Txt) (s : Txt) : Spec Tryz.prog 67 [lst 1 (strs l), .str s] (fun r => r = .int .i64 (vR l s 0)) := by
 refine Spec.of_len hf67 fun hlen => ?_
 have hl := sP (sz := 1) (rows := strs l) List.mem_cons_self hlen
 rw [strs_len] at hl
 clear hlen
 refine Spec.of_awlS hf67 okf67 (by simp) fun S hS => ?_
 simp only [strs_len, Qs, Nat.reduceAdd, Nat.reduceBEq, uu f67.eq_1, uu f67b18.eq_1, vv f67r19.eq_1, uu f67b20.eq_1, uu f67b21.eq_1, vv f67r22.eq_1, uu f67b23.eq_1]
 rw [zlF]
 refine zU (fun i : Nat => [(0, lst 1 (strs l)), (1, .str s), (7, .int .i64 l.length), (8, .int .i64 i)]) (fun _ => []) (fun i => i ≤ l.length ∧ vR (l.drop i) s i = vR l s 0) (fun i => l.length - i) 0 rfl rfl ⟨Nat.zero_le _, rfl⟩ ?_
 rintro i ⟨hi, hn⟩
 by_cases hlt : i < l.length
 · have c1 : (i : Int) < l.length := by omega
   have c4 : IntKind.i64.wrap ((i : Int) + 1) = (i : Int) + 1 := wrap_in (by omega) (by omega)
   rw [zni s hlt] at hn
   by_cases he : s = l[i]
   · rw [if_pos he] at hn
     simp only [c1, c4, ← he, strs_len, zX hlt, Qs, rL, if_true, BEq.rfl, List.nodup_nil, Nat.reduceBEq, vv f67r3.eq_1, vv f67r4.eq_1, uu f67b5.eq_1, uu f67b6.eq_1, vv f67r7.eq_1, uu f67b8.eq_1, vv f67r9.eq_1, uu f67b10.eq_1, uu f67b11.eq_1, uu f67b12.eq_1, uu f67b13.eq_1, uu f67b14.eq_1, vv f67r15.eq_1, uu f67b16.eq_1]
     exact fin hS (by rw [← hn])
   · rw [if_neg he] at hn
     have he' : (s == l[i]) = false := by simpa using he
     simp only [c1, c4, he', strs_len, zX hlt, Qs, rL, if_true, Nat.reduceBEq, vv f67r3.eq_1, uu f67b6.eq_1, vv f67r7.eq_1, uu f67b8.eq_1, vv f67r9.eq_1, uu f67b10.eq_1, uu f67b11.eq_1, uu f67b12.eq_1, uu f67b13.eq_1, uu f67b14.eq_1, vv f67r15.eq_1, uu f67b16.eq_1]
     exact Next.intro (i + 1) rfl rfl ⟨by omega, hn⟩ (by omega)
 · obtain rfl : i = l.length := by omega
   have c1 : ¬ (l.length : Int) < l.length := by omega
   simp only [c1, strs_len, Qs, if_true, Int.reduceNeg, List.nodup_nil, Nat.reduceBEq, vv f67r1.eq_1, uu f67b2.eq_1, uu f67b13.eq_1, uu f67b14.eq_1, vv f67r15.eq_1, uu f67b16.eq_1]
   rw [List.drop_length] at hn
   exact fin hS (by rw [← hn]; rfl)
theorem v36 (l : List Txt) (s : Txt) : Spec Tryz.prog 36 [lst 1 (strs l), .str s] (fun r => r = .bool (decide (s ∈ l))) := by
 refine Spec.of_awlS hf36 okf36 (by simp) fun S hS => ?_
 simp only [zA, Qs, Nat.reduceAdd, Nat.reduceBEq, uu f36.eq_1, vv f36r1.eq_1, uu f36b2.eq_1, vv f36r3.eq_1, uu f36b4.eq_1]
 refine zJ (v67 l s) ?_
 have h := zh8 l s 0
 by_cases hm : s ∈ l
 · have h1 := h.2 hm
   simp only [h1, Qs, if_true, List.nodup_nil]
   exact fin hS (by rw [decide_eq_true hm])
 · have h1 : ¬ vR l s 0 ≥ 0 := fun g => hm (h.1 g)
   simp only [h1, Qs, if_true, List.nodup_nil]
   exact fin hS (by rw [decide_eq_false hm])
def xQ (l : List Txt) : Bool := decide ((l.length : Int) > 500)
theorem v74 (l : List Txt) : Spec Tryz.prog 74 [lst 1 (strs l)] (fun r => r = .bool (xQ l)) := by
 refine Spec.of_awlS hf74 okf74 (by simp) fun S hS => ?_
 simp only [strs_len, Qs, if_true, List.nodup_nil, Nat.reduceBEq, uu f74.eq_1, vv f74r1.eq_1, uu f74b2.eq_1, vv f74r3.eq_1, uu f74b4.eq_1]
 unfold xQ at hS
 by_cases h : (l.length : Int) > 500 <;> simp only [h, Qs] <;> simpa [h] using hS
def vS : List (List Txt) → Nat → Int
 | [], _ => -1
 | a :: l, i => if xQ a = true then i else vS l (i + 1)
theorem znj {l : List (List Txt)} {i : Nat} (h : i < l.length) : vS (l.drop i) i = if xQ l[i] = true then (i : Int) else vS (l.drop (i + 1)) (i + 1) := by
 rw [List.drop_eq_getElem_cons h, vS]
theorem zh9 : ∀ (l : List (List Txt)) (i : Nat), vS l i ≥ 0 ↔ l.any xQ = true
 | [], i => by simp [vS]
 | a :: l, i => by
   rw [vS]
   by_cases h : xQ a = true
   · rw [if_pos h]; simp [h]
   · rw [if_neg h, zh9 l (i + 1)]; simp [h]
theorem v94 (l : List (List Txt)) : Spec Tryz.prog 94 [lst 1 (lls l), .k (.c (.fn 74 []))] (fun r => r = .int .i64 (vS l 0)) := by
 refine Spec.of_len hf94 fun hlen => ?_
 have hl := sP (sz := 1) (rows := lls l) List.mem_cons_self hlen
 rw [yA] at hl
 clear hlen
 refine Spec.of_awlS hf94 okf94 (by simp) fun S hS => ?_
 simp only [yA, Qs, Nat.reduceAdd, Nat.reduceBEq, uu f94.eq_1, uu f94b18.eq_1, vv f94r19.eq_1, uu f94b20.eq_1, uu f94b21.eq_1, vv f94r22.eq_1, uu f94b23.eq_1]
 rw [zlM]
 refine zU (fun i : Nat => [(0, lst 1 (lls l)), (1, .k (.c (.fn 74 []))), (7, .int .i64 l.length), (8, .int .i64 i)]) (fun _ => []) (fun i => i ≤ l.length ∧ vS (l.drop i) i = vS l 0) (fun i => l.length - i) 0 rfl rfl ⟨Nat.zero_le _, rfl⟩ ?_
 rintro i ⟨hi, hn⟩
 by_cases hlt : i < l.length
 · have c1 : (i : Int) < l.length := by omega
   have c4 : IntKind.i64.wrap ((i : Int) + 1) = (i : Int) + 1 := wrap_in (by omega) (by omega)
   rw [znj hlt] at hn
   simp only [c1, c4, yA, xG hlt, zA, Qs, zkv, if_true, Nat.reduceBEq, vv f94r3.eq_1, vv f94r7.eq_1, uu f94b8.eq_1, vv f94r9.eq_1, uu f94b10.eq_1, uu f94b11.eq_1, uu f94b12.eq_1, uu f94b13.eq_1, uu f94b14.eq_1, vv f94r15.eq_1, uu f94b16.eq_1]
   refine zlS (v74 l[i]) ?_ (ha := by simp [zH, V.norm, lst])
   by_cases he : xQ l[i] = true
   · rw [if_pos he] at hn
     simp only [he, Qs, o7, List.nodup_nil, Nat.reduceBEq, vv f94r4.eq_1, uu f94b5.eq_1, uu f94b6.eq_1]
     exact fin hS (by rw [← hn])
   · rw [if_neg he] at hn
     simp only [he, c4, Qs, if_true, Nat.reduceBEq, uu f94b6.eq_1]
     exact Next.intro (i + 1) rfl rfl ⟨by omega, hn⟩ (by omega)
 · obtain rfl : i = l.length := by omega
   have c1 : ¬ (l.length : Int) < l.length := by omega
   simp only [c1, yA, Qs, o7, if_true, Int.reduceNeg, List.nodup_nil, Nat.reduceBEq, vv f94r1.eq_1, uu f94b2.eq_1, uu f94b13.eq_1, uu f94b14.eq_1, vv f94r15.eq_1, uu f94b16.eq_1]
   rw [List.drop_length] at hn
   exact fin hS (by rw [← hn]; rfl)
theorem v73 (l : List (List Txt)) : Spec Tryz.prog 73 [lst 1 (lls l), .k (.c (.fn 74 []))] (fun r => r = .bool (l.any xQ)) := by
 refine Spec.of_awlS hf73 okf73 (by simp) fun S hS => ?_
 simp only [zW, Qs, Nat.reduceAdd, Nat.reduceBEq, uu f73.eq_1, vv f73r1.eq_1, uu f73b2.eq_1, vv f73r3.eq_1, uu f73b4.eq_1]
 refine zJ (v94 l) ?_ (ha := by simp [zH, V.norm, lst, zW])
 have h := zh9 l 0
 by_cases hm : l.any xQ = true
 · have h1 := h.2 hm
   simp only [h1, Qs, o7, if_true, List.nodup_nil]
   exact fin hS (by rw [hm])
 · have h1 : ¬ vS l 0 ≥ 0 := fun g => hm (h.1 g)
   simp only [h1, Qs, o7, if_true, List.nodup_nil]
   exact fin hS (by simpa using hm)
def y0 (l : List (List Txt)) : Bool := decide ((l.length : Int) ≤ 3) && !(l.any xQ)
theorem v48 (l : List (List Txt)) : Spec Tryz.prog 48 [lst 1 (lls l)] (fun r => r = .bool (y0 l)) := by
 refine Spec.of_awlS hf48 okf48 (by simp) fun S hS => ?_
 unfold y0 at hS
 by_cases h : (l.length : Int) ≤ 3
 · simp only [h, yA, Qs, if_true, Nat.reduceBEq, uu f48.eq_1, vv f48r1.eq_1, uu f48b2.eq_1, vv f48r3.eq_1, uu f48b4.eq_1]
   refine zJ (v73 l) ?_ (ha := by simp [zH, V.norm, lst, zW])
   cases hm : l.any xQ <;> simp only [Qs, if_true, List.nodup_nil, Nat.reduceBEq] <;> simpa [h, hm] using hS
 · simp only [h, yA, Qs, if_true, List.nodup_nil, Nat.reduceBEq, uu f48.eq_1, vv f48r1.eq_1, uu f48b2.eq_1, vv f48r3.eq_1, uu f48b4.eq_1]
   simpa [h] using hS
theorem znk {l : List (List Txt)} (h : (l.length : Int) ≤ 3) {i : Nat} (hi : i = l.length) (hd : (l.take i).all (fun x => !xQ x) = true) : y0 l = true := by
 subst hi
 rw [List.take_length] at hd
 unfold y0
 rw [decide_eq_true h, Bool.true_and]
 simpa using hd
theorem v29 (l : List (List Txt)) : Spec Tryz.prog 29 [lst 1 (lls l)] (fun r => r = .bool (y0 l)) := by
 refine Spec.of_len hf29 fun hlen => ?_
 have hl := sP (sz := 1) (rows := lls l) List.mem_cons_self hlen
 rw [yA] at hl
 clear hlen
 refine Spec.of_awlS hf29 okf29 (by simp) fun S hS => ?_
 simp only [Qs, uu f29.eq_1, uu f29b16.eq_1, vv f29r17.eq_1, uu f29b18.eq_1, uu f29b19.eq_1, vv f29r20.eq_1, uu f29b21.eq_1]
 rw [zln]
 refine zU (fun i : Nat => [(0, lst 1 (lls l)), (3, .int .i64 i)]) (fun _ => []) (fun i => i ≤ l.length ∧ i ≤ 5 ∧ (l.take i).all (fun x => !xQ x) = true) (fun i => l.length - i) 0 rfl rfl ⟨Nat.zero_le _, by omega, rfl⟩ ?_
 rintro i ⟨hi, h5, hd⟩
 have fin2 : ¬ (i < l.length ∧ i < 5) → S (.bool (decide ((l.length : Int) ≤ 3))) := by
   intro hno
   refine fin hS ?_
   by_cases h3 : (l.length : Int) ≤ 3
   · rw [znk h3 (by omega) hd, decide_eq_true h3]
   · unfold y0; rw [decide_eq_false h3, Bool.false_and]
 by_cases hlt : i < l.length
 · have c1 : (i : Int) < l.length := by omega
   by_cases hlt5 : i < 5
   · have c2 : (i : Int) < 5 := by omega
     have c4 : IntKind.i64.wrap ((i : Int) + 1) = (i : Int) + 1 := wrap_in (by omega) (by omega)
     by_cases h1 : (l[i].length : Int) > 500
     · simp only [c1, c2, c4, h1, yA, xG hlt, strs_len, zA, Qs, if_true, List.nodup_nil, Nat.reduceBEq, vv f29r3.eq_1, vv f29r4.eq_1, uu f29b5.eq_1, uu f29b6.eq_1, vv f29r7.eq_1, uu f29b8.eq_1, uu f29b9.eq_1, uu f29b10.eq_1, uu f29b11.eq_1, vv f29r12.eq_1, uu f29b13.eq_1, uu f29b14.eq_1]
       refine fin hS ?_
       have : l.any xQ = true := List.any_eq_true.2 ⟨l[i], List.getElem_mem hlt, decide_eq_true h1⟩
       unfold y0
       rw [this]; simp
     · simp only [c1, c2, c4, h1, yA, xG hlt, strs_len, zA, Qs, if_true, Nat.reduceBEq, vv f29r3.eq_1, uu f29b6.eq_1, vv f29r7.eq_1, uu f29b8.eq_1, uu f29b9.eq_1, uu f29b10.eq_1, uu f29b11.eq_1, vv f29r12.eq_1, uu f29b13.eq_1, uu f29b14.eq_1]
       refine Next.intro (i + 1) rfl rfl ⟨by omega, by omega, ?_⟩ (by omega)
       rw [List.take_add_one, List.getElem?_eq_getElem hlt, List.all_append, hd]
       simp [xQ]; omega
   · have c2 : ¬ (i : Int) < 5 := by omega
     simp only [c1, c2, yA, Qs, if_true, List.nodup_nil, Nat.reduceBEq, vv f29r1.eq_1, uu f29b2.eq_1, uu f29b11.eq_1, vv f29r12.eq_1, uu f29b13.eq_1, uu f29b14.eq_1]
     exact fin2 (fun g => hlt5 g.2)
 · have c1 : ¬ (i : Int) < l.length := by omega
   simp only [c1, yA, Qs, if_true, List.nodup_nil, Nat.reduceBEq, vv f29r1.eq_1, uu f29b2.eq_1, uu f29b11.eq_1, vv f29r12.eq_1, uu f29b13.eq_1, uu f29b14.eq_1]
   exact fin2 (fun g => hlt g.1)
theorem s38 (l : List Wr) (hl : l.length ≤ 512) : Spec Tryz.prog 38 [lst 2 (wrs l)] (fun r => r = .k (.newl 52 2 none (wrs l))) := by
 refine ⟨vL (by kernel_rfl), fun w Z vs hG hz ha => ?_⟩
 obtain ⟨vl⟩ := vs
 match vl, ha with
 | [], ha => exact absurd ha.1 (by simp)
 | _ :: _ :: _, ha => exact absurd ha.1 (by simp)
 | [v], ha =>
   obtain ⟨p, k, rfl, q, m⟩ := (tM l).slice (ha.2 0 _ v rfl rfl).2.2
   refine (zhv p (wrs l).length k (xU (wrs l)) w (tM l).clen (by rw [zL]; exact hl) q (tM l).one).mono ?_
   rintro e w' ⟨v', rfl, ho, hb⟩
   exact ⟨_, _, rfl, rfl, fun τ => rfl, pC hG (wU hb) (nV (tM l) ho rfl)⟩
def takeR (d : Disk) (s : Txt) : Disk × Int := if (readJ d).2 ≠ 0 then (y5, (readJ d).2) else if s ∈ (readJ d).1.list then (d, 5) else appendJ d s
theorem v14 (d : Disk) (h : Right d) (s : Txt) (hs : s.length ≤ 1000000000) : Spec Tryz.prog 14 [dV d, .str s] (fun r => r = zI (takeR d s)) := by
 refine Spec.of_awlP hf14 okf14 (by simp) fun S hS => ?_
 have c35 := b20 d h
 have c39 := b11 d h s hs
 have hhi := h.hi
 have hpe := h.pe
 unfold takeR at hS
 generalize appendJ d s = Y at c39 hS
 generalize readJ d = X at c35 hS
 obtain ⟨⟨xl, xb, xc⟩, xe⟩ := X
 obtain ⟨⟨ys, yp, yl, yd⟩, ye⟩ := Y
 obtain ⟨secs, pend, left, down⟩ := d
 simp only [] at hhi hpe
 simp only [zI, dV, zD] at *
 simp only [zA, zB, Qs, if_true, bne_iff_ne, ne_eq, Nat.reduceAdd, Nat.reduceEqDiff, Nat.reduceBEq, uu f14.eq_1, vv f14r17.eq_1, uu f14b18.eq_1, vv f14r19.eq_1, uu f14b20.eq_1]
 refine zT c35 ?_
 by_cases he : xe = 0
 · subst he
   rw [if_neg (by simp)] at hS
   simp only [zA, zB, Qs, if_true, List.append_nil, Nat.reduceAdd, Nat.reduceMul, Nat.reduceBEq, Int.reduceBNe, vv f14r8.eq_1, uu f14b9.eq_1, uu f14b10.eq_1, uu f14b13.eq_1, vv f14r14.eq_1, uu f14b15.eq_1, uu f14b16.eq_1]
   refine zJ (v36 xl s) ?_
   by_cases hm : s ∈ xl
   · rw [if_pos hm] at hS
     have hd : decide (s ∈ xl) = true := decide_eq_true hm
     simp only [hd, zA, zB, Qs, if_false, Nat.reduceAdd, Nat.reduceLeDiff, Nat.reduceBEq, vv f14r5.eq_1, uu f14b6.eq_1, uu f14b7.eq_1]
     refine zg9 (s37 secs (by omega)) ?_
     simp only [V.fz, Abs.K.fz, zA, zB, Qs, if_false, Nat.reduceAdd, Nat.reduceLeDiff, Nat.reduceBEq]
     refine zg9 (s38 pend hpe) ?_
     simp only [V.fz, Abs.K.fz, zA, zB, Qs, if_true, List.append_nil, List.nodup_nil, Nat.reduceAdd, Nat.reduceLeDiff, Nat.reduceLT, Nat.reduceBEq, vv f14r3.eq_1, uu f14b4.eq_1]
     exact zS hS (yR _) (yJ _) rfl
   · rw [if_neg hm] at hS
     have hd : decide (s ∈ xl) = false := decide_eq_false hm
     simp only [hd, zA, zB, Qs, if_true, Nat.reduceAdd, Nat.reduceBEq, vv f14r1.eq_1, uu f14b2.eq_1, uu f14b7.eq_1]
     refine zT c39 ?_
     simp only [zA, zB, Qs, if_true, List.append_nil, List.nodup_nil, Nat.reduceAdd, Nat.reduceMul, Nat.reduceLT, Nat.reduceBEq]
     exact zS hS (yR _) (yJ _) rfl
 · rw [if_pos he] at hS
   simp only [he, zA, zB, Qs, if_true, forall_const, List.append_nil, List.nodup_nil, Nat.reduceAdd, Nat.reduceMul, Nat.reduceLT, Nat.reduceBEq, vv f14r8.eq_1, uu f14b9.eq_1, uu f14b10.eq_1, vv f14r11.eq_1, uu f14b12.eq_1, uu f14b13.eq_1, vv f14r14.eq_1, uu f14b15.eq_1, uu f14b16.eq_1]
   exact zS hS (secs := []) (pend := []) rfl rfl rfl
theorem v15 (d : Disk) (h : Right d) (s : Txt) (hs : s.length ≤ 1000000000) : Spec Tryz.prog 15 [dV d, .str s] (fun r => r = zI (takeR d s)) := by
 refine Spec.of_awlP hf15 okf15 (by simp) fun S hS => ?_
 have c35 := z16 d h
 have c39 := z8 d h s hs
 unfold takeR at hS
 generalize appendJ d s = Y at c39 hS
 generalize readJ d = X at c35 hS
 obtain ⟨⟨xl, xb, xc⟩, xe⟩ := X
 obtain ⟨⟨ys, yp, yl, yd⟩, ye⟩ := Y
 obtain ⟨secs, pend, left, down⟩ := d
 simp only [zI, dV, zD] at *
 simp only [zA, zB, Qs, if_true, bne_iff_ne, ne_eq, Nat.reduceAdd, Nat.reduceEqDiff, Nat.reduceBEq, uu f15.eq_1, vv f15r15.eq_1, uu f15b16.eq_1, vv f15r17.eq_1, uu f15b18.eq_1]
 refine zT c35 ?_
 by_cases he : xe = 0
 · subst he
   rw [if_neg (by simp)] at hS
   simp only [zA, zB, Qs, if_true, List.append_nil, Nat.reduceAdd, Nat.reduceMul, Nat.reduceBEq, Int.reduceBNe, vv f15r6.eq_1, uu f15b7.eq_1, uu f15b8.eq_1, uu f15b11.eq_1, vv f15r12.eq_1, uu f15b13.eq_1, uu f15b14.eq_1]
   refine zJ (v27 xl s) ?_
   by_cases hm : s ∈ xl
   · rw [if_pos hm] at hS
     have hd : decide (s ∈ xl) = true := decide_eq_true hm
     simp only [hd, zA, zB, Qs, if_true, List.append_nil, List.nodup_nil, Nat.reduceAdd, Nat.reduceLT, Nat.reduceBEq, vv f15r3.eq_1, uu f15b4.eq_1, uu f15b5.eq_1]
     exact zS hS (yR _) (yJ _) rfl
   · rw [if_neg hm] at hS
     have hd : decide (s ∈ xl) = false := decide_eq_false hm
     simp only [hd, zA, zB, Qs, if_true, Nat.reduceAdd, Nat.reduceBEq, vv f15r1.eq_1, uu f15b2.eq_1, uu f15b5.eq_1]
     refine zT c39 ?_
     simp only [zA, zB, Qs, if_true, List.append_nil, List.nodup_nil, Nat.reduceAdd, Nat.reduceMul, Nat.reduceLT, Nat.reduceBEq]
     exact zS hS (yR _) (yJ _) rfl
 · rw [if_pos he] at hS
   simp only [he, zA, zB, Qs, if_true, forall_const, List.append_nil, List.nodup_nil, Nat.reduceAdd, Nat.reduceMul, Nat.reduceLT, Nat.reduceBEq, vv f15r6.eq_1, uu f15b7.eq_1, uu f15b8.eq_1, vv f15r9.eq_1, uu f15b10.eq_1, uu f15b11.eq_1, vv f15r12.eq_1, uu f15b13.eq_1, uu f15b14.eq_1]
   exact zS hS (secs := []) (pend := []) rfl rfl rfl
theorem nZ {d : Disk} (h : Right d) (s : Txt) : uU (takeR d s) := by
 unfold takeR
 by_cases h1 : (readJ d).2 ≠ 0
 · rw [if_pos h1]; exact .inl ⟨rfl, h1⟩
 · rw [if_neg h1]
   by_cases h2 : s ∈ (readJ d).1.list
   · rw [if_pos h2]; exact .inr h
   · rw [if_neg h2]; exact znh h s
def xD : Disk → List Txt → Nat → (Disk × Nat) × Int
 | d, [], n => ((d, n), 0)
 | d, s :: l, n => if (takeR d s).2 = 0 then xD (takeR d s).1 l (n + 1)
   else if (takeR d s).2 = 5 then xD d l n
   else if (takeR d s).2 = 8 ∧ (takeR d s).1.secs ≠ [] then (((takeR d s).1, n), 8)
   else ((d, n), (takeR d s).2)
def xC (x : (Disk × Nat) × Int) : V := .tup [dV x.1.1, .int .i64 (x.1.2 : Int), .int .i64 x.2]
theorem wW {S : V → Prop} {X : V} (h : ∀ r, r.fz.nrm = X → S r) {c1 c2 : C} {l e m : Int} {n : Nat} {b : Bool} {secs : List Txt} {pend : List Wr} (h1 : c1.norm = lstC 1 (strs secs)) (h2 : c2.norm = lstC 2 (wrs pend)) (hm : m = n) (hX : X = xC ((⟨secs, pend, l, b⟩, n), e)) : S (.tup [.agg [c1, c2, .int .i64 l, .bool b], .k (.c (.int .i64 m)), .k (.c (.int .i64 e))]) := by
 refine h _ ?_
 subst hm
 simp only [V.fz, V.nrm, V.fzL, V.nrmL, Abs.K.fz, Abs.K.nrm, C.normRow, h1, h2, sO, nF, hX, xC, dV, zD]
theorem v25 (d : Disk) (h : Right d) (l : List Txt) (hl : l.length ≤ 1000000) (hs : ∀ s ∈ l, s.length ≤ 1000000000) : Spec Tryz.prog 25 [dV d, lst 1 (strs l)] (fun r => r = xC (xD d l 0)) := by
 refine Spec.of_awlP hf25 okf25 (by simp) fun S hS => ?_
 simp only [dV, zD, strs_len, zA, zB, Qs, bne_iff_ne, ne_eq, Nat.reduceAdd, Nat.reduceEqDiff, Nat.reduceBEq, uu f25.eq_1, uu f25b32.eq_1, vv f25r33.eq_1, uu f25b34.eq_1, uu f25b35.eq_1, vv f25r36.eq_1, uu f25b37.eq_1, vv f25r38.eq_1, uu f25b39.eq_1]
 rw [zgS]
 refine zU (fun x : Nat × Disk × Nat => [(2, .k (.ptr 2 0)), (4, .k (.ptr 4 0)), (7, .int .i64 x.2.2), (12, lst 1 (strs l)), (13, .int .i64 l.length), (14, .int .i64 x.1)])
   (fun x => [(2, yN x.2.1.secs x.2.1.pend x.2.1.left x.2.1.down), (4, .var 25 [.c (.list 0 (some true) []), .c (.list 0 (some true) []), .c (.int .i64 0), .c (.bool false)])])
   (fun x => x.1 ≤ l.length ∧ x.2.2 ≤ x.1 ∧ Right x.2.1 ∧ xD x.2.1 (l.drop x.1) x.2.2 = xD d l 0) (fun x => l.length - x.1) (0, d, 0) rfl rfl ⟨Nat.zero_le _, Nat.le_refl _, h, rfl⟩ ?_
 rintro ⟨i, D, n⟩ ⟨hi, hn, hR, hj⟩
 simp only [] at hi hn hR hj
 by_cases hlt : i < l.length
 · have c1 : (i : Int) < l.length := by omega
   have c4 : IntKind.i64.wrap ((i : Int) + 1) = (i : Int) + 1 := wrap_in (by omega) (by omega)
   have c5 : IntKind.i64.wrap ((n : Int) + 1) = ((n + 1 : Nat) : Int) := by rw [wrap_in (by omega) (by omega)]; omega
   rw [List.drop_eq_getElem_cons hlt, xD] at hj
   have cT := v14 D hR l[i] (hs _ (List.getElem_mem hlt))
   have hL := nZ hR l[i]
   generalize takeR D l[i] = X at cT hL hj
   obtain ⟨⟨xs, xp, xl, xd⟩, xe⟩ := X
   simp only [] at hj
   simp only [zI, dV, zD] at cT
   simp only [c1, c4, strs_len, zX hlt, zA, zB, Qs, if_true, Nat.reduceAdd, Nat.reduceBEq, vv f25r3.eq_1, vv f25r21.eq_1, uu f25b22.eq_1, vv f25r23.eq_1, uu f25b24.eq_1, uu f25b25.eq_1, uu f25b26.eq_1, uu f25b27.eq_1, uu f25b28.eq_1, vv f25r29.eq_1, uu f25b30.eq_1]
   refine zT cT ?_
   by_cases e0 : xe = 0
   · subst e0
     rw [if_pos rfl] at hj
     simp only [c4, c5, zA, zB, Qs, if_true, bne_iff_ne, ne_eq, BEq.rfl, List.append_nil, Nat.reduceAdd, Nat.reduceMul, Nat.reduceEqDiff, Nat.reduceBEq, vv f25r4.eq_1, vv f25r5.eq_1, uu f25b6.eq_1, uu f25b17.eq_1, vv f25r18.eq_1, uu f25b19.eq_1, uu f25b20.eq_1]
     exact Next.intro (i + 1, ⟨xs, xp, xl, xd⟩, n + 1) rfl rfl ⟨by show i + 1 ≤ l.length; omega, by show n + 1 ≤ i + 1; omega, hL.good (.inl rfl), hj⟩ (by show l.length - (i + 1) < l.length - i; omega)
   · rw [if_neg e0] at hj
     by_cases e5 : xe = 5
     · subst e5
       rw [if_pos rfl] at hj
       simp only [c4, zA, zB, Qs, if_true, bne_iff_ne, ne_eq, List.append_nil, Nat.reduceAdd, Nat.reduceMul, Nat.reduceEqDiff, Nat.reduceBEq, Int.reduceBEq, Int.reduceBNe, uu f25b11.eq_1, vv f25r12.eq_1, uu f25b13.eq_1, uu f25b14.eq_1, vv f25r15.eq_1, uu f25b16.eq_1, uu f25b17.eq_1, vv f25r18.eq_1, uu f25b19.eq_1, uu f25b20.eq_1]
       exact Next.intro (i + 1, D, n) rfl rfl ⟨by show i + 1 ≤ l.length; omega, by show n ≤ i + 1; omega, hR, hj⟩ (by show l.length - (i + 1) < l.length - i; omega)
     · rw [if_neg e5] at hj
       by_cases e8 : xe = 8
       · subst e8
         by_cases hx : xs = []
         · subst hx
           rw [if_neg (fun g => g.2 rfl)] at hj
           rw [← hj] at hS
           simp only [c4, strs_len, zA, zB, Qs, if_true, if_false, bne_iff_ne, ne_eq, BEq.rfl, List.append_nil, List.nodup_nil, Nat.reduceAdd, Nat.reduceMul, Nat.reduceEqDiff, Nat.reduceLeDiff, Nat.reduceLT, Nat.reduceBEq, Int.reduceGT, Int.reduceBEq, Int.reduceBNe, vv f25r9.eq_1, uu f25b10.eq_1, uu f25b11.eq_1, vv f25r12.eq_1, uu f25b13.eq_1, uu f25b14.eq_1, vv f25r15.eq_1, uu f25b16.eq_1, uu f25b17.eq_1, vv f25r18.eq_1, uu f25b19.eq_1, uu f25b20.eq_1]
           exact wW hS (yR _) (yJ _) rfl rfl
         · rw [if_pos ⟨rfl, hx⟩] at hj
           rw [← hj] at hS
           have hpos : (xs.length : Int) > 0 := by have := List.length_pos_iff.2 hx; omega
           simp only [c4, hpos, strs_len, zA, zB, Qs, if_true, if_false, bne_iff_ne, ne_eq, BEq.rfl, List.append_nil, List.nodup_nil, Nat.reduceAdd, Nat.reduceMul, Nat.reduceEqDiff, Nat.reduceLeDiff, Nat.reduceLT, Nat.reduceBEq, Int.reduceBEq, vv f25r7.eq_1, uu f25b8.eq_1, uu f25b14.eq_1, vv f25r15.eq_1, uu f25b16.eq_1, uu f25b17.eq_1, vv f25r18.eq_1, uu f25b19.eq_1, uu f25b20.eq_1]
           exact wW hS (yR _) (yJ _) rfl rfl
       · rw [if_neg (fun g => e8 g.1)] at hj
         rw [← hj] at hS
         simp only [e0, e5, e8, c4, strs_len, zA, zB, Qs, if_true, if_false, forall_const, bne_iff_ne, ne_eq, List.append_nil, List.nodup_nil, Nat.reduceAdd, Nat.reduceMul, Nat.reduceEqDiff, Nat.reduceLeDiff, Nat.reduceLT, Nat.reduceBEq, vv f25r4.eq_1, vv f25r5.eq_1, uu f25b6.eq_1, vv f25r7.eq_1, uu f25b8.eq_1, vv f25r9.eq_1, uu f25b10.eq_1, uu f25b11.eq_1, vv f25r12.eq_1, uu f25b13.eq_1, uu f25b14.eq_1, vv f25r15.eq_1, uu f25b16.eq_1, uu f25b17.eq_1, vv f25r18.eq_1, uu f25b19.eq_1, uu f25b20.eq_1]
         exact wW hS (yR _) (yJ _) rfl rfl
 · have c1 : ¬ (i : Int) < l.length := by omega
   rw [List.drop_eq_nil_of_le (by omega), xD] at hj
   rw [← hj] at hS
   simp only [c1, strs_len, zA, zB, Qs, if_true, List.append_nil, List.nodup_nil, Nat.reduceAdd, Nat.reduceLT, Nat.reduceBEq, vv f25r1.eq_1, uu f25b2.eq_1, uu f25b27.eq_1, uu f25b28.eq_1, vv f25r29.eq_1, uu f25b30.eq_1]
   exact wW hS (yR _) (yJ _) rfl rfl
theorem v26 (d : Disk) (h : Right d) (l : List Txt) (hl : l.length ≤ 1000000) (hs : ∀ s ∈ l, s.length ≤ 1000000000) : Spec Tryz.prog 26 [dV d, lst 1 (strs l)] (fun r => r = xC (xD d l 0)) := by
 refine Spec.of_awlP hf26 okf26 (by simp) fun S hS => ?_
 simp only [dV, zD, strs_len, zA, zB, Qs, bne_iff_ne, ne_eq, Nat.reduceAdd, Nat.reduceEqDiff, Nat.reduceBEq, uu f26.eq_1, uu f26b30.eq_1, vv f26r31.eq_1, uu f26b32.eq_1, uu f26b33.eq_1, vv f26r34.eq_1, uu f26b35.eq_1, vv f26r36.eq_1, uu f26b37.eq_1]
 rw [zgU]
 refine zU (fun x : Nat × Disk × Nat => [(1, lst 1 (strs l)), (2, .k (.ptr 2 0)), (4, .k (.ptr 4 0)), (7, .int .i64 x.2.2), (8, .int .i64 x.1)])
   (fun x => [(2, yN x.2.1.secs x.2.1.pend x.2.1.left x.2.1.down), (4, .var 25 [.c (.list 0 (some true) []), .c (.list 0 (some true) []), .c (.int .i64 0), .c (.bool false)])])
   (fun x => x.1 ≤ l.length ∧ x.2.2 ≤ x.1 ∧ Right x.2.1 ∧ xD x.2.1 (l.drop x.1) x.2.2 = xD d l 0) (fun x => l.length - x.1) (0, d, 0) rfl rfl ⟨Nat.zero_le _, Nat.le_refl _, h, rfl⟩ ?_
 rintro ⟨i, D, n⟩ ⟨hi, hn, hR, hj⟩
 simp only [] at hi hn hR hj
 by_cases hlt : i < l.length
 · have c1 : (i : Int) < l.length := by omega
   have c4 : IntKind.i64.wrap ((i : Int) + 1) = (i : Int) + 1 := wrap_in (by omega) (by omega)
   have c5 : IntKind.i64.wrap ((n : Int) + 1) = ((n + 1 : Nat) : Int) := by rw [wrap_in (by omega) (by omega)]; omega
   rw [List.drop_eq_getElem_cons hlt, xD] at hj
   have cT := v15 D hR l[i] (hs _ (List.getElem_mem hlt))
   have hL := nZ hR l[i]
   generalize takeR D l[i] = X at cT hL hj
   obtain ⟨⟨xs, xp, xl, xd⟩, xe⟩ := X
   simp only [] at hj
   simp only [zI, dV, zD] at cT
   simp only [c1, c4, strs_len, zX hlt, zA, zB, Qs, oY, if_true, bne_iff_ne, ne_eq, Nat.reduceAdd, Nat.reduceEqDiff, Nat.reduceBEq, vv f26r3.eq_1, vv f26r21o0.eq_1, vv f26r21o1.eq_1, vv f26r21o2.eq_1, vv f26r21o3.eq_1, vv f26r21o4.eq_1, vv f26r21o5.eq_1, vv f26r21o6.eq_1, vv f26r21o7.eq_1, vv f26r21o8.eq_1, vv f26r21o9.eq_1, vv f26r21o10.eq_1, vv f26r21o11.eq_1, zgT, uu f26b22.eq_1, uu f26b23.eq_1, uu f26b24.eq_1, uu f26b25.eq_1, vv f26r26.eq_1, uu f26b27.eq_1, uu f26b28.eq_1]
   refine uE cT ?_ rfl (by simp [zH, V.norm, C.normRow, dV, zD, z6, xK, zA, zB]) rfl
   simp only [zI, dV, zD, zA, zB, Qs, if_true, if_false, List.append_nil, List.nodup_nil, Nat.reduceAdd, Nat.reduceLeDiff, Nat.reduceLT, Nat.reduceBEq, vv f26r4.eq_1, vv f26r5.eq_1, uu f26b6.eq_1, vv f26r7.eq_1, uu f26b8.eq_1, vv f26r9.eq_1, uu f26b10.eq_1, uu f26b11.eq_1, vv f26r12.eq_1, uu f26b13.eq_1, uu f26b14.eq_1, uu f26b15.eq_1, vv f26r16.eq_1, uu f26b17.eq_1, uu f26b18.eq_1, vv f26r19.eq_1, uu f26b20.eq_1]
   by_cases e0 : xe = 0
   · subst e0
     rw [if_pos rfl] at hj
     simp only [c4, c5, zA, zB, Qs, forall_const, BEq.rfl, Int.reduceEq, Int.reduceBNe]
     exact Next.intro (i + 1, ⟨xs, xp, xl, xd⟩, n + 1) rfl rfl ⟨by show i + 1 ≤ l.length; omega, by show n + 1 ≤ i + 1; omega, hL.good (.inl rfl), hj⟩ (by show l.length - (i + 1) < l.length - i; omega)
   · rw [if_neg e0] at hj
     by_cases e5 : xe = 5
     · subst e5
       rw [if_pos rfl] at hj
       simp only [c4, zA, zB, Qs, forall_const, Int.reduceEq, Int.reduceBEq, Int.reduceBNe]
       exact Next.intro (i + 1, D, n) rfl rfl ⟨by show i + 1 ≤ l.length; omega, by show n ≤ i + 1; omega, hR, hj⟩ (by show l.length - (i + 1) < l.length - i; omega)
     · rw [if_neg e5] at hj
       by_cases e8 : xe = 8
       · subst e8
         by_cases hx : xs = []
         · subst hx
           rw [if_neg (fun g => g.2 rfl)] at hj
           rw [← hj] at hS
           simp only [c4, strs_len, zA, zB, Qs, forall_const, Int.reduceEq, Int.reduceGT, Int.reduceBEq, Int.reduceBNe]
           exact wW hS (yR _) (yJ _) rfl rfl
         · rw [if_pos ⟨rfl, hx⟩] at hj
           rw [← hj] at hS
           have hpos : (xs.length : Int) > 0 := by have := List.length_pos_iff.2 hx; omega
           simp only [c4, hpos, strs_len, zA, zB, Qs, forall_const, Int.reduceEq, Int.reduceBEq, Int.reduceBNe]
           exact wW hS (yR _) (yJ _) rfl rfl
       · rw [if_neg (fun g => e8 g.1)] at hj
         rw [← hj] at hS
         simp only [e0, e5, e8, c4, strs_len, zA, zB, Qs, forall_const]
         exact wW hS (yR _) (yJ _) rfl rfl
 · have c1 : ¬ (i : Int) < l.length := by omega
   rw [List.drop_eq_nil_of_le (by omega), xD] at hj
   rw [← hj] at hS
   simp only [c1, strs_len, zA, zB, Qs, if_true, List.append_nil, List.nodup_nil, Nat.reduceAdd, Nat.reduceLT, Nat.reduceBEq, vv f26r1.eq_1, uu f26b2.eq_1, uu f26b25.eq_1, vv f26r26.eq_1, uu f26b27.eq_1, uu f26b28.eq_1]
   exact wW hS (yR _) (yJ _) rfl rfl
theorem v18 (d : Disk) (h : Right d) : Spec Tryz.prog 18 [dV d] (fun r => r = .tup [lst 1 (strs (readJ d).1.list), .int .i64 (readJ d).2]) := by
 refine Spec.of_awlS hf18 okf18 (by simp) fun S hS => ?_
 have c35 := b20 d h
 generalize readJ d = X at c35 hS
 obtain ⟨⟨xl, xb, xc⟩, xe⟩ := X
 obtain ⟨secs, pend, left, down⟩ := d
 simp only [dV, zD] at *
 simp only [zA, zB, Qs, if_true, bne_iff_ne, ne_eq, Nat.reduceAdd, Nat.reduceEqDiff, Nat.reduceBEq, uu f18.eq_1, vv f18r1.eq_1, uu f18b2.eq_1, vv f18r3.eq_1, uu f18b4.eq_1]
 refine zT c35 ?_
 simp only [zA, zB, Qs, List.append_nil, List.nodup_nil, Nat.reduceAdd, Nat.reduceMul, Nat.reduceBEq]
 exact hS
theorem v16 (d : Disk) (h : Right d) : Spec Tryz.prog 16 [dV d] (fun r => r = zI (startD d)) := by
 refine Spec.of_awlP hf16 okf16 (by simp) fun S hS => ?_
 have c35 := b19 d h
 generalize startD d = X at c35 hS
 obtain ⟨⟨xs, xp, xl, xd⟩, xe⟩ := X
 obtain ⟨secs, pend, left, down⟩ := d
 simp only [zI, dV, zD] at *
 simp only [zA, zB, Qs, if_true, bne_iff_ne, ne_eq, Nat.reduceAdd, Nat.reduceEqDiff, Nat.reduceBEq, uu f16.eq_1, vv f16r1.eq_1, uu f16b2.eq_1, vv f16r3.eq_1, uu f16b4.eq_1]
 refine zT c35 ?_
 simp only [zA, zB, Qs, if_true, List.append_nil, List.nodup_nil, Nat.reduceAdd, Nat.reduceMul, Nat.reduceLT, Nat.reduceBEq]
 exact zS hS (yR _) (yJ _) rfl
end Go.Abs
set_option maxRecDepth 100000
set_option maxHeartbeats 8000000
namespace Go.Proofs
open Go.Shelf Go.RowKit Go.Lib
def mix {α : Type} (z : α) (zs : List α) (m : Nat) : List α := List.replicate m z ++ zs.drop m
theorem znl {α : Type} (z : α) (zs : List α) {m : Nat} (h : m ≤ zs.length) : (mix z zs m).length = zs.length := by simp [mix]; omega
theorem znm {α : Type} (z : α) (zs : List α) {m k : Nat} (h : m + k ≤ zs.length) : splice (mix z zs m) m (List.replicate k z) = mix z zs (m + k) := by
 unfold splice mix
 rw [List.take_left' (by simp), List.length_replicate, List.drop_append, List.length_replicate, List.drop_eq_nil_of_le (by simp), List.nil_append, List.drop_drop, ← List.replicate_append_replicate, show m + (m + k - m) = m + k by omega, List.append_assoc]
theorem znn {α : Type} (z : α) (zs : List α) {m j : Nat} (h : j < m) : (mix z zs m)[j]? = some z := by
 unfold mix
 rw [List.getElem?_append_left (by simpa using h), List.getElem?_replicate, if_pos h]
theorem zno (b o c n : Nat) (z : ByteArray) (w : World) (h0 : 1 ≤ n) (hn : n ≤ 512) (hz : w.cell? ⟨b, o, none⟩ = some (.string z)) :
   Calls Tryz.prog 56 #[.slice (some ⟨b, o, none⟩) 1 c, .int .i64 n] w fun e w' => ∃ g, e = .returned (.slice (some ⟨g, 0, none⟩) n n) ∧ w.heap.size ≤ g ∧ w'.heap[g]? = some (.cells (List.replicate n (Value.string z)).toArray 9 (0, 0)) ∧ Below w.heap.size w w' := by
 obtain ⟨zs, hzl, hmk⟩ : ∃ zs : List Value, zs.length = n ∧ ∀ w : World, (Instr.makeSlice 22 (.int .i64 (n : Int)) (.int .i64 (n : Int))).run Tryz.prog w = .ok (.slice (some ⟨w.heap.size, 0, none⟩) n n) (w.alloc (.cells zs.toArray 9)) := by
   obtain ⟨i0, hi, hz0, hz1, hz2⟩ := info_parts (P := Tryz.prog) (e := 9) (z := .string ⟨#[]⟩) (size := 1) (bytes := 16) (by kernel_rfl)
   refine ⟨(madeCells (Value.string ⟨#[]⟩).cells n).toList, by rw [Array.length_toList, size_madeCells], fun w => ?_⟩
   have h := run_makeSlice (P := Tryz.prog) (w := w) 22 9 i0 (.string ⟨#[]⟩) Tryz.underlying22 hi hz0 .i64 .i64 (n : Int) (n : Int) (by omega) (Int.le_refl _) (by rw [hz1]; simp; omega) (by rw [hz2]; omega) (by omega)
   rw [hz1] at h
   simpa using h
 have c78 : ∀ w, Calls Tryz.prog 78 #[.int .u64 1, .int .u64 n] w fun e w' => e = .returned (.tuple #[.int .u64 0, .int .u64 n]) ∧ w' = w := fun w => by
   have h := Any.bits_Mul Tryz.laysMul 1 n (by omega) (by omega) w
   rw [show 1 * n / 18446744073709551616 = 0 by omega, show 1 * n % 18446744073709551616 = n by omega] at h
   exact h
 have i2 : ¬ (n : Int) < 0 := by omega
 have i3 : ¬ (n : Int) > 9223372036854775807 := by omega
 have wu : IntKind.u64.wrap (n : Int) = n := by unfold IntKind.wrap; simp [IntKind.signed, IntKind.bits]; omega
 have wi : IntKind.i64.wrap (n : Int) = n := Go.Abs.wrap_in (by omega) (by omega)
 go_enter Tryz.func56, Tryz.ntmps56
 go_wp2_with (first | (go_at_call 78; refine (c78 w).mono ?_; rintro e w1 ⟨rfl, hw⟩; rw [hw]; clear hw) | (refine wpList_copy_splice rfl _ _ 22 22 rfl 9 Tryz.underlying22 (by kernel_rfl) _ _ n n 1 c rfl rfl w.heap.size 0 zs 9 ?hg [Value.string z] ?hn ?hpos ?hfit ?h1 w.heap.size w ?hb ?hBg ?_))
 case hg => exact Go.Abs.alloc_get _ _
 case hn => exact (Nat.min_eq_left h0).symm
 case hpos =>
   intro j v hj
   cases j with
   | zero => simp at hj; subst hj; exact Lib.cell?_alloc_some _ hz
   | succ j => simp at hj
 case hfit => simp; omega
 case h1 => intro v hv; simp at hv; subst hv; rfl
 case hb => exact (Below.refl _ _).alloc (Nat.le_refl _) _
 case hBg => exact Nat.le_refl _
 intro w3 hg3 hb3
 have hg3 := hg3.out
 have e1 : splice zs 0 [Value.string z] = mix (Value.string z) zs 1 := by
   unfold splice mix
   simp
 rw [e1] at hg3
 clear c78 e1
 go_wp2
 go_loopg [8] (n - 1) (fun g i wr => ∃ m : Nat, 1 ≤ m ∧ m ≤ n ∧ g = n - m ∧ i = .int .i64 m ∧ wr.heap[w.heap.size]? = some (.cells (mix (Value.string z) zs m).toArray 9 (0, 0)) ∧ Below w.heap.size w wr)
 case atStart => exact ⟨1, Nat.le_refl _, h0, rfl, rfl, hg3, hb3⟩
 case round =>
   obtain ⟨m, m1, m2, rfl, rfl, hh, hb⟩ := hrel
   by_cases hlt : m < n
   · have hmn : (m : Int) < n := by omega
     obtain ⟨k, hk⟩ : ∃ k, k = Nat.min m (n - m) := ⟨_, rfl⟩
     have hk1 : k ≤ m ∧ k ≤ n - m := by subst hk; exact ⟨Nat.min_le_left _ _, Nat.min_le_right _ _⟩
     have hk2 : 1 ≤ k := by subst hk; exact Nat.le_min.2 ⟨m1, by omega⟩
     have ws : IntKind.i64.wrap ((m : Int) + k) = ((m + k : Nat) : Int) := by rw [Go.Abs.wrap_in (by omega) (by omega)]; omega
     have hne : ¬ n = m := by omega
     have hl : (mix (Value.string z) zs m).length = n := by rw [znl _ _ (by omega)]; exact hzl
     have hh' : wr.drew.heap[w.heap.size]? = some (.cells (mix (Value.string z) zs m).toArray 9 (0, 0)) := hh
     have hb' : Below w.heap.size w wr.drew := hb.drew
     have hn' : (List.replicate k (Value.string z)).length = Nat.min m (n - m) := by rw [List.length_replicate]; exact hk
     have hpos' : ∀ j v, (List.replicate k (Value.string z))[j]? = some v → wr.drew.cell? ((⟨w.heap.size, 0, none⟩ : Addr).add j) = some v := fun j v hj => by
       rw [List.getElem?_replicate] at hj
       split at hj
       · cases hj
         rw [Addr.add_lit, Nat.zero_add, Lib.cell_of_heap hh', List.getElem?_toArray]
         exact znn _ _ (by omega)
       · cases hj
     have hfit' : m + (List.replicate k (Value.string z)).length ≤ (mix (Value.string z) zs m).length := by rw [List.length_replicate, hl]; omega
     have h1' : ∀ v ∈ List.replicate k (Value.string z), v.oneCell' = true := fun v hv => by rw [(List.mem_replicate.1 hv).2]; rfl
     have A : Aside (wr.drew.heap[w.heap.size]? = some (.cells (mix (Value.string z) zs m).toArray 9 (0, 0)) ∧ Below w.heap.size w wr.drew ∧ (List.replicate k (Value.string z)).length = Nat.min m (n - m) ∧ (∀ j v, (List.replicate k (Value.string z))[j]? = some v → wr.drew.cell? ((⟨w.heap.size, 0, none⟩ : Addr).add j) = some v) ∧ m + (List.replicate k (Value.string z)).length ≤ (mix (Value.string z) zs m).length ∧ ∀ v ∈ List.replicate k (Value.string z), v.oneCell' = true) := ⟨hh', hb', hn', hpos', hfit', h1'⟩
     have B : Aside (m + k ≤ zs.length ∧ k ≤ n - m ∧ 1 ≤ k ∧ k = Nat.min m (n - m)) := ⟨by omega, by omega, by omega, hk⟩
     clear hh' hb' hn' hpos' hfit' h1' hl hh hb hk hk1 hk2 hzl
     go_wp2
     go_region_law (refine step_copy_splice rfl _ _ 22 22 rfl 9 Tryz.underlying22 (by kernel_rfl) _ _ (n - m) (n - m) m n rfl rfl w.heap.size m (mix (Value.string z) zs m) 9 A.out.1 (List.replicate k (Value.string z)) A.out.2.2.1 (fun _ => ⟨rfl, _, rfl, A.out.2.2.2.1⟩) A.out.2.2.2.2.1 A.out.2.2.2.2.2 w.heap.size w A.out.2.1 (Nat.le_refl _) ?_; intro w4 hg4 hb4)
     all_goals
       obtain ⟨B1, B2, B3, B4⟩ := B.out
       have hg5 := hg4.out
       rw [znm _ _ B1] at hg5
       clear A hg4
       go_wp2
       go_roundg (n - (m + k))
       case rel => exact ⟨m + k, by omega, by omega, rfl, by go_num, hg5, hb4⟩
       case measure => omega
   · obtain rfl : m = n := by omega
     have e2 : mix (Value.string z) zs m = List.replicate m (Value.string z) := by
       unfold mix; rw [List.drop_eq_nil_of_le (by omega), List.append_nil]
     rw [e2] at hh
     go_wp2
     go_ret
     exact ⟨w.heap.size, rfl, Nat.le_refl _, hh, hb⟩
end Go.Proofs
set_option maxRecDepth 100000
set_option maxHeartbeats 4000000
namespace Go.Abs
open Go.Proofs Go.Wire Go.RowKit Go.Jr
theorem s56 (n : Nat) (z : Txt) (h0 : 1 ≤ n) (hn : n ≤ 512) : Spec Tryz.prog 56 [lst 1 (strs [z]), .int .i64 n] (fun r => r = .k (.newl 9 1 none (strs (List.replicate n z)))) := by
 refine ⟨vL (by kernel_rfl), fun w Z vs hG hz ha => ?_⟩
 obtain ⟨v1, v2, rfl, h1, h2⟩ := jR ha
 obtain ⟨p, k, rfl, q, m⟩ := (plain_strs [z]).slice h1.2
 have e2 := wM h2.2
 subst e2
 obtain ⟨b, o, rfl, g⟩ := q (by simp)
 have hc := g 0 (.string ⟨z.toArray⟩) rfl
 rw [Nat.add_zero] at hc
 refine (zno b o k n ⟨z.toArray⟩ w h0 hn hc).mono ?_
 rintro e w' ⟨g2, rfl, hg, hh, hb⟩
 have hlen : (strs (List.replicate n z)).length = n := by rw [strs_len, List.length_replicate]
 refine ⟨_, _, rfl, rfl, fun τ => rfl, pC hG (wU hb) (.inr ⟨g2, n, by rw [hlen], hg, ⟨_, hh, by rw [List.size_toArray, List.length_replicate, Nat.mul_one], fun i j r c hr hc => ?_⟩, by decide, by rw [hlen]; exact Nat.le_refl _, by unfold maxLen; omega, (plain_strs _).len⟩)⟩
 simp only [strs, List.map_replicate, List.getElem?_replicate] at hr
 split at hr
 · rename_i hi
   cases hr
   cases j with
   | succ j => simp [x7] at hc
   | zero =>
     simp [x7] at hc
     subst hc
     exact ⟨.string ⟨z.toArray⟩, by rw [List.getElem?_toArray, List.getElem?_replicate, Nat.mul_one, Nat.add_zero, if_pos hi], fun Z => .str _⟩
 · cases hr
def newX (n : Int) : Disk × Int := if n < 1 ∨ n > 512 then (y5, 1) else (yT n.toNat, 0)
theorem v31 (n : Int) : Spec Tryz.prog 31 [.int .i64 n] (fun r => r = zI (newX n)) := by
 refine Spec.of_awlP hf31 okf31 (by simp) fun S hS => ?_
 unfold newX at hS
 by_cases h1 : n < 1
 · rw [if_pos (.inl h1)] at hS
   simp only [h1, Qs, if_true, List.append_nil, List.nodup_nil, Nat.reduceAdd, Nat.reduceLT, Nat.reduceBEq, uu f31.eq_1, vv f31r3.eq_1, uu f31b4.eq_1, uu f31b5.eq_1, vv f31r6.eq_1, uu f31b7.eq_1, uu f31b8.eq_1, vv f31r9.eq_1, uu f31b10.eq_1]
   exact zS hS (secs := []) (pend := []) rfl rfl rfl
 · by_cases h2 : n > 512
   · rw [if_pos (.inr h2)] at hS
     simp only [h1, h2, Qs, if_true, if_false, List.append_nil, List.nodup_nil, Nat.reduceAdd, Nat.reduceLT, Nat.reduceBEq, uu f31.eq_1, vv f31r3.eq_1, uu f31b4.eq_1, uu f31b5.eq_1, vv f31r6.eq_1, uu f31b7.eq_1, uu f31b8.eq_1, vv f31r9.eq_1, uu f31b10.eq_1]
     exact zS hS (secs := []) (pend := []) rfl rfl rfl
   · rw [if_neg (fun h => h.elim h1 h2)] at hS
     obtain ⟨k, rfl⟩ : ∃ k : Nat, n = k := ⟨n.toNat, by omega⟩
     rw [Int.toNat_natCast] at hS
     have c57 := s43 16 (by omega)
     simp only [h1, h2, Qs, if_true, if_false, Int.reduceNeg, Nat.reduceBEq, uu f31.eq_1, vv f31r1.eq_1, uu f31b2.eq_1, uu f31b5.eq_1, vv f31r6.eq_1, uu f31b7.eq_1, uu f31b8.eq_1, vv f31r9.eq_1, uu f31b10.eq_1]
     refine zJ c57 ?_
     simp only [Qs, forall_eq, bne_iff_ne, ne_eq, Int.reduceNeg, List.mem_cons, Nat.reduceEqDiff, Nat.reduceLT, Nat.reduceBEq, List.not_mem_nil]
     refine zb9 12 (by simp [look, lookT]) (s56 k (yM 16) (by omega) (by omega)) (by simp [zH, yI, lookO, V.isPure]) (by simp [zH, yI, lookO, V.norm, z6, lst]; rfl) (by simp [V.toks, Abs.K.toks]) (by simp [lookO, vH]) rfl ?_
     simp only [zA, Qs, qO, qP, o8, zkW, qQ, qR, kY, if_true, if_false, or_true, bne_iff_ne, ne_eq, Int.reduceNeg, List.append_nil, List.nodup_nil, List.nodup_cons, Nat.reduceAdd, Nat.reduceEqDiff, Nat.reduceLeDiff, Nat.reduceLT, Nat.reduceBEq, List.not_mem_nil, qT, sK, sL, qV]
     exact vO hS (pend := []) rfl rfl (wK none _) rfl rfl
theorem v33 (n : Int) : Spec Tryz.prog 33 [.int .i64 n] (fun r => r = zI (newX n)) := by
 unfold newX
 by_cases h : n < 1 ∨ n > 512
 · rw [if_pos h]
   refine Spec.of_awlP hf33 okf33 (by simp) fun S hS => ?_
   by_cases h1 : n < 1
   · simp only [h1, Qs, if_true, List.append_nil, List.nodup_nil, Nat.reduceAdd, Nat.reduceLT, Nat.reduceBEq, uu f33.eq_1, vv f33r18.eq_1, uu f33b19.eq_1, uu f33b20.eq_1, vv f33r21.eq_1, uu f33b22.eq_1, uu f33b23.eq_1, vv f33r24.eq_1, uu f33b25.eq_1]
     exact zS hS (secs := []) (pend := []) rfl rfl rfl
   · have h2 : n > 512 := h.resolve_left h1
     simp only [h1, h2, Qs, if_true, if_false, List.append_nil, List.nodup_nil, Nat.reduceAdd, Nat.reduceLT, Nat.reduceBEq, uu f33.eq_1, vv f33r18.eq_1, uu f33b19.eq_1, uu f33b20.eq_1, vv f33r21.eq_1, uu f33b22.eq_1, uu f33b23.eq_1, vv f33r24.eq_1, uu f33b25.eq_1]
     exact zS hS (secs := []) (pend := []) rfl rfl rfl
 · rw [if_neg h]
   obtain ⟨k, rfl⟩ : ∃ k : Nat, n = k := ⟨n.toNat, by omega⟩
   rw [Int.toNat_natCast]
   exact r16 k (by omega) (by omega)
def newR (n : Int) : Disk × Int := if (newX n).2 ≠ 0 then (y5, (newX n).2) else formatJ (newX n).1
theorem iI {n : Int} (h : (newX n).2 = 0) : Right (newX n).1 := by
 unfold newX at *
 by_cases h1 : n < 1 ∨ n > 512
 · rw [if_pos h1] at h; cases h
 · rw [if_neg h1]
   exact zm8 (by omega) (by omega)
theorem v11 (n : Int) : Spec Tryz.prog 11 [.int .i64 n] (fun r => r = zI (newR n)) := by
 refine Spec.of_awlP hf11 okf11 (by simp) fun S hS => ?_
 have c31 := v31 n
 unfold newR at hS
 have hok := iI (n := n)
 generalize newX n = X at c31 hS hok
 obtain ⟨⟨xs, xp, xl, xd⟩, xe⟩ := X
 simp only [zI, dV, zD] at c31
 simp only [zA, zB, Qs, Nat.reduceBEq, uu f11.eq_1, vv f11r9.eq_1, uu f11b10.eq_1, vv f11r11.eq_1, uu f11b12.eq_1]
 refine zT c31 ?_
 by_cases he : xe = 0
 · subst he
   rw [if_neg (by simp)] at hS
   have c17 := b17 _ (hok rfl)
   simp only [dV, zD] at c17 hS
   simp only [zA, zB, Qs, if_true, bne_iff_ne, ne_eq, List.append_nil, Nat.reduceAdd, Nat.reduceMul, Nat.reduceEqDiff, Nat.reduceBEq, Int.reduceBNe, vv f11r1.eq_1, uu f11b2.eq_1, uu f11b5.eq_1, vv f11r6.eq_1, uu f11b7.eq_1, uu f11b8.eq_1]
   refine zT c17 ?_
   generalize formatJ ⟨xs, xp, xl, xd⟩ = Y at hS ⊢
   obtain ⟨⟨ys, yp, yl, yd⟩, ye⟩ := Y
   simp only [zI, dV, zD, zA, zB, Qs, if_true, List.append_nil, List.nodup_nil, Nat.reduceAdd, Nat.reduceMul, Nat.reduceLT, Nat.reduceBEq]
   exact zS hS (yR _) (yJ _) rfl
 · rw [if_pos he] at hS
   simp only [he, zA, zB, Qs, if_true, forall_const, bne_iff_ne, ne_eq, List.append_nil, List.nodup_nil, Nat.reduceAdd, Nat.reduceMul, Nat.reduceEqDiff, Nat.reduceLT, Nat.reduceBEq, vv f11r1.eq_1, uu f11b2.eq_1, vv f11r3.eq_1, uu f11b4.eq_1, uu f11b5.eq_1, vv f11r6.eq_1, uu f11b7.eq_1, uu f11b8.eq_1]
   exact zS hS (secs := []) (pend := []) rfl rfl rfl
theorem v12 (n : Int) : Spec Tryz.prog 12 [.int .i64 n] (fun r => r = zI (newR n)) := by
 refine Spec.of_awlP hf12 okf12 (by simp) fun S hS => ?_
 have c31 := v33 n
 unfold newR at hS
 have hok := iI (n := n)
 generalize newX n = X at c31 hS hok
 obtain ⟨⟨xs, xp, xl, xd⟩, xe⟩ := X
 simp only [zI, dV, zD] at c31
 simp only [zA, zB, Qs, Nat.reduceBEq, uu f12.eq_1, vv f12r9.eq_1, uu f12b10.eq_1, vv f12r11.eq_1, uu f12b12.eq_1]
 refine zT c31 ?_
 by_cases he : xe = 0
 · subst he
   rw [if_neg (by simp)] at hS
   have c17 := z7 _ (hok rfl)
   simp only [dV, zD] at c17 hS
   simp only [zA, zB, Qs, if_true, bne_iff_ne, ne_eq, List.append_nil, Nat.reduceAdd, Nat.reduceMul, Nat.reduceEqDiff, Nat.reduceBEq, Int.reduceBNe, vv f12r1.eq_1, uu f12b2.eq_1, uu f12b5.eq_1, vv f12r6.eq_1, uu f12b7.eq_1, uu f12b8.eq_1]
   refine zT c17 ?_
   generalize formatJ ⟨xs, xp, xl, xd⟩ = Y at hS ⊢
   obtain ⟨⟨ys, yp, yl, yd⟩, ye⟩ := Y
   simp only [zI, dV, zD, zA, zB, Qs, if_true, List.append_nil, List.nodup_nil, Nat.reduceAdd, Nat.reduceMul, Nat.reduceLT, Nat.reduceBEq]
   exact zS hS (yR _) (yJ _) rfl
 · rw [if_pos he] at hS
   simp only [he, zA, zB, Qs, if_true, forall_const, bne_iff_ne, ne_eq, List.append_nil, List.nodup_nil, Nat.reduceAdd, Nat.reduceMul, Nat.reduceEqDiff, Nat.reduceLT, Nat.reduceBEq, vv f12r1.eq_1, uu f12b2.eq_1, vv f12r3.eq_1, uu f12b4.eq_1, uu f12b5.eq_1, vv f12r6.eq_1, uu f12b7.eq_1, uu f12b8.eq_1]
   exact zS hS (secs := []) (pend := []) rfl rfl rfl
end Go.Abs
set_option maxRecDepth 100000
set_option maxHeartbeats 4000000
namespace Go.Abs
open Go.Proofs Go.Wire Go.RowKit Go.Jr Go.Rg
theorem iJ : ∀ (l : List Txt) (s : Txt), (y6 l s).length ≤ l.length + 1
 | [], s => by simp [y6]
 | a :: l, s => by
   rw [y6]
   split
   · simp
   · split
     · simp
     · have := iJ l s
       simp only [List.length_cons]; omega
theorem znp {l : List Txt} {i : Nat} (s : Txt) (h : i < l.length) : y6 (l.drop i) s = if s < l[i] then s :: l.drop i else if s = l[i] then l.drop i else l[i] :: y6 (l.drop (i + 1)) s := by
 rw [List.drop_eq_getElem_cons h, y6]
theorem v51 (l : List Txt) (s : Txt) (hsz : l.length ≤ 1000000) : Spec Tryz.prog 51 [lst 1 (strs l), .str s] (fun r => r = .k (.newl 9 1 none (strs (y6 l s)))) := by
 refine Spec.of_awlS hf51 okf51 (by simp) fun S hS => ?_
 simp only [Qs, bne_iff_ne, ne_eq, Nat.reduceAdd, Nat.reduceEqDiff, Nat.reduceBEq, uu f51.eq_1, uu f51b27.eq_1, vv f51r28.eq_1, uu f51b29.eq_1, uu f51b30.eq_1, vv f51r31.eq_1, uu f51b32.eq_1, vv f51r33.eq_1, uu f51b34.eq_1, vv f51r35.eq_1, uu f51b36.eq_1]
 rw [zlz]
 refine zU (fun x : Nat × Bool × List Txt => [(0, lst 1 (strs l)), (1, .str s), (5, .k (.own 5)), (6, .bool x.2.1), (7, .int .i64 x.1)]) (fun x => [(5, .arr 9 1 (nlApp (some true) (strs x.2.2)) (strs x.2.2))])
   (fun x => x.1 ≤ l.length ∧ x.2.2.length ≤ x.1 + x.2.1.toNat ∧ (if x.2.1 = true then x.2.2 ++ l.drop x.1 else x.2.2 ++ y6 (l.drop x.1) s) = y6 l s) (fun x => l.length - x.1) (0, false, []) rfl rfl ⟨Nat.zero_le _, by simp, by simp⟩ ?_
 rintro ⟨i, put, out⟩ ⟨hi, ho, hj⟩
 simp only [] at hi ho hj
 have hpt : put.toNat ≤ 1 := Bool.toNat_le put
 by_cases hlt : i < l.length
 · have c1 : (i : Int) < l.length := by omega
   have c4 : IntKind.i64.wrap ((i : Int) + 1) = (i : Int) + 1 := wrap_in (by omega) (by omega)
   have e2 : l.drop i = l[i] :: l.drop (i + 1) := List.drop_eq_getElem_cons hlt
   have enl : ∀ (o2 : List Txt) (a : Txt), nlApp (some true) (strs (o2 ++ [a])) = some false := fun o2 a => by cases o2 <;> rfl
   cases put with
   | true =>
     rw [if_pos rfl] at hj
     simp only [c1, c4, strs_len, zX hlt, uC, Qs, sH, sJ, zkU, if_true, if_false, forall_eq, bne_iff_ne, ne_eq, List.mem_cons, Nat.reduceEqDiff, Nat.reduceLeDiff, Nat.reduceLT, Nat.reduceBEq, List.not_mem_nil, vv f51r8.eq_1, vv f51r9.eq_1, uu f51b16.eq_1, vv f51r17.eq_1, uu f51b18.eq_1, uu f51b19.eq_1, uu f51b20.eq_1, uu f51b21.eq_1, uu f51b22.eq_1, vv f51r23.eq_1, uu f51b24.eq_1, uu f51b25.eq_1]
     refine ⟨by omega, by omega, Next.intro (i + 1, true, out ++ [l[i]]) rfl (by simp only [enl]; rfl) ⟨by show i + 1 ≤ l.length; omega, by simp only [List.length_append, List.length_singleton, Bool.toNat_true, Bool.toNat_false] at ho ⊢; omega, ?_⟩ (by show l.length - (i + 1) < l.length - i; omega)⟩
     simp only [if_true]
     rw [← hj, e2, List.append_assoc]; rfl
   | false =>
     rw [if_neg (by simp), znp s hlt] at hj
     rcases tri s l[i] with h1 | h1 | h1
     · rw [if_pos h1] at hj
       have b1 : Op.bytesLess s l[i] = true := by rw [Go.Proofs.bytesLess_eq]; simpa using h1
       simp only [c1, c4, b1, Bool.true_or, strs_len, zX hlt, uC, Qs, sH, zdK, kR, zkS, if_true, if_false, forall_eq, bne_iff_ne, ne_eq, List.mem_cons, Nat.reduceEqDiff, Nat.reduceLeDiff, Nat.reduceLT, Nat.reduceBEq, List.not_mem_nil, vv f51r8.eq_1, vv f51r9.eq_1, vv f51r10.eq_1, vv f51r11.eq_1, uu f51b12.eq_1, vv f51r13.eq_1, uu f51b14.eq_1, uu f51b15.eq_1, uu f51b16.eq_1, vv f51r17.eq_1, uu f51b18.eq_1, uu f51b19.eq_1, uu f51b20.eq_1, uu f51b21.eq_1, uu f51b22.eq_1, vv f51r23.eq_1, uu f51b24.eq_1, uu f51b25.eq_1]
       refine ⟨by omega, by omega, by simp only [List.length_append, List.length_singleton]; omega, by simp only [List.length_append, List.length_singleton]; omega, Next.intro (i + 1, true, out ++ [s] ++ [l[i]]) rfl (by simp only [enl]; rfl) ⟨by show i + 1 ≤ l.length; omega, by simp only [List.length_append, List.length_singleton, Bool.toNat_true, Bool.toNat_false] at ho ⊢; omega, ?_⟩ (by show l.length - (i + 1) < l.length - i; omega)⟩
       simp only [if_true]
       rw [← hj, e2, List.append_assoc, List.append_assoc]; rfl
     · have hn : ¬ s < l[i] := by rw [h1]; exact rY _
       rw [if_neg hn, if_pos h1] at hj
       have b1 : Op.bytesLess s l[i] = false := by rw [Go.Proofs.bytesLess_eq]; simpa using hn
       have b2 : (s == l[i]) = true := by simpa using h1
       simp only [c1, c4, b1, b2, Bool.false_or, strs_len, zX hlt, uC, Qs, sH, zdK, kR, if_true, if_false, forall_eq, bne_iff_ne, ne_eq, List.mem_cons, Nat.reduceEqDiff, Nat.reduceLeDiff, Nat.reduceLT, Nat.reduceBEq, List.not_mem_nil, vv f51r8.eq_1, vv f51r9.eq_1, vv f51r10.eq_1, vv f51r11.eq_1, uu f51b12.eq_1, vv f51r13.eq_1, uu f51b14.eq_1, uu f51b15.eq_1, uu f51b16.eq_1, vv f51r17.eq_1, uu f51b18.eq_1, uu f51b19.eq_1, uu f51b20.eq_1, uu f51b21.eq_1, uu f51b22.eq_1, vv f51r23.eq_1, uu f51b24.eq_1, uu f51b25.eq_1]
       refine ⟨by omega, by omega, Next.intro (i + 1, true, out ++ [l[i]]) rfl (by simp only [enl]; rfl) ⟨by show i + 1 ≤ l.length; omega, by simp only [List.length_append, List.length_singleton, Bool.toNat_true, Bool.toNat_false] at ho ⊢; omega, ?_⟩ (by show l.length - (i + 1) < l.length - i; omega)⟩
       simp only [if_true]
       rw [← hj, e2, List.append_assoc]; rfl
     · have hn : ¬ s < l[i] := fun h => rY _ (j4 h h1)
       have hne : ¬ s = l[i] := fun h => rY l[i] (h ▸ h1)
       rw [if_neg hn, if_neg hne] at hj
       have b1 : Op.bytesLess s l[i] = false := by rw [Go.Proofs.bytesLess_eq]; simpa using hn
       have b2 : (s == l[i]) = false := by simpa using hne
       simp only [c1, c4, b1, b2, Bool.false_or, strs_len, zX hlt, uC, Qs, sH, kR, if_true, if_false, forall_eq, bne_iff_ne, ne_eq, Bool.or_false, List.mem_cons, Nat.reduceEqDiff, Nat.reduceLeDiff, Nat.reduceLT, Nat.reduceBEq, List.not_mem_nil, vv f51r8.eq_1, vv f51r9.eq_1, uu f51b16.eq_1, vv f51r17.eq_1, uu f51b18.eq_1, uu f51b19.eq_1, uu f51b20.eq_1, uu f51b21.eq_1, uu f51b22.eq_1, vv f51r23.eq_1, uu f51b24.eq_1, uu f51b25.eq_1]
       refine ⟨by omega, by omega, Next.intro (i + 1, false, out ++ [l[i]]) rfl (by simp only [enl]; rfl) ⟨by show i + 1 ≤ l.length; omega, by simp only [List.length_append, List.length_singleton, Bool.toNat_true, Bool.toNat_false] at ho ⊢; omega, ?_⟩ (by show l.length - (i + 1) < l.length - i; omega)⟩
       simp only [Bool.false_eq_true, if_false]
       rw [← hj, List.append_assoc]; rfl
 · obtain rfl : i = l.length := by omega
   have c1 : ¬ (l.length : Int) < l.length := by omega
   rw [List.drop_length] at hj
   cases put with
   | true =>
     rw [if_pos rfl, List.append_nil] at hj
     simp only [c1, strs_len, zA, Qs, if_true, List.nodup_nil, List.nodup_cons, Nat.reduceBEq, List.not_mem_nil, vv f51r1.eq_1, uu f51b2.eq_1, vv f51r3.eq_1, uu f51b4.eq_1, vv f51r5.eq_1, uu f51b6.eq_1, uu f51b7.eq_1, uu f51b22.eq_1, vv f51r23.eq_1, uu f51b24.eq_1, uu f51b25.eq_1]
     rw [hj]; exact hS
   | false =>
     rw [if_neg (by simp)] at hj
     have hj2 : out ++ [s] = y6 l s := hj
     simp only [c1, strs_len, uC, hj2, zA, Qs, qP, if_true, if_false, forall_eq, bne_iff_ne, ne_eq, List.mem_cons, List.nodup_nil, List.nodup_cons, Nat.reduceEqDiff, Nat.reduceLeDiff, Nat.reduceLT, Nat.reduceBEq, List.not_mem_nil, vv f51r1.eq_1, uu f51b2.eq_1, vv f51r3.eq_1, uu f51b4.eq_1, vv f51r5.eq_1, uu f51b6.eq_1, uu f51b7.eq_1, uu f51b22.eq_1, vv f51r23.eq_1, uu f51b24.eq_1, uu f51b25.eq_1]
     exact ⟨by omega, by omega, hS⟩
def uG : Bool → List Txt → V
 | false, _ => .k (.c (.list 1 (some true) []))
 | true, l => .k (.c (.list 1 none (strs l)))
theorem znq (b : Bool) {l : List Txt} (h : b = false → l = []) : (uG b l).norm = lst 1 (strs l) := by
 cases b with
 | true => simp [uG, V.norm, z6]
 | false => rw [h rfl]; rfl
theorem znr (b : Bool) {l : List Txt} (h : b = false → l = []) : (uG b l).nrm = lst 1 (strs l) := by
 cases b with
 | true => simp [uG, V.nrm, Abs.K.nrm, z6]
 | false => rw [h rfl]; rfl
theorem zia (a : List Txt) : ∀ (r : List (List Txt)) (out : List Txt), (wA a r out).length ≤ out.length + a.length * r.length
 | [], out => by simp [wA]
 | b :: r, out => by
   have h1 := zia a r (vN out (a.filter fun s => decide (s ∈ b)))
   have h2 : ∀ (l : List Txt) (acc : List Txt), (vN acc l).length ≤ acc.length + l.length := by
     intro l
     induction l with
     | nil => intro acc; simp [vN]
     | cons s l ih =>
       intro acc
       have := ih (y6 acc s)
       have := iJ acc s
       show (vN (y6 acc s) l).length ≤ _
       simp only [List.length_cons]; omega
   have h3 := h2 (a.filter fun s => decide (s ∈ b)) out
   have h4 := List.length_filter_le (fun s => decide (s ∈ b)) a
   rw [wA, List.length_cons, Nat.mul_add]
   omega
theorem v22 (logs : List (List Txt)) : Spec Tryz.prog 22 [lst 1 (lls logs)] (fun r => r = lst 1 (strs (if y0 logs = true then xF logs else []))) := by
 refine Spec.of_awlP hf22 okf22 (by simp) fun S hS => ?_
 simp only [zW, Qs, if_true, if_false, bne_iff_ne, ne_eq, Nat.reduceEqDiff, Nat.reduceBEq, kZ, sK, qU, sL, uu f22.eq_1, vv f22r44.eq_1, uu f22b45.eq_1, uu f22b46.eq_1, vv f22r47.eq_1, uu f22b48.eq_1, vv f22r49.eq_1, uu f22b50.eq_1]
 refine zJ (v29 logs) ?_ (ha := by simp [zH, V.norm, lst, zW])
 cases hr : y0 logs with
 | false =>
   rw [hr, if_neg (by simp)] at hS
   simp only [Qs, if_true, BEq.rfl, List.nodup_nil, List.nodup_cons, Nat.reduceBEq, List.not_mem_nil, vv f22r41.eq_1, uu f22b42.eq_1, uu f22b43.eq_1]
   exact hS _ rfl
 | true =>
   have h3 : (logs.length : Int) ≤ 3 := by
     unfold y0 at hr
     simp only [Bool.and_eq_true, decide_eq_true_eq] at hr
     exact hr.1
   have h5 : ∀ l ∈ logs, l.length ≤ 500 := by
     unfold y0 at hr
     simp only [Bool.and_eq_true, Bool.not_eq_true', List.any_eq_false] at hr
     intro l hl
     have := hr.2 l hl
     simp [xQ] at this
     omega
   rw [hr, if_pos rfl] at hS
   simp only [Qs, uu f22b37.eq_1, vv f22r38.eq_1, uu f22b39.eq_1, uu f22b40.eq_1, uu f22b43.eq_1]
   rw [zlk]
   refine zU (fun x : Nat × Bool × List Txt => [(0, lst 1 (lls logs)), (3, uG x.2.1 x.2.2), (4, .int .i64 x.1)]) (fun _ => [])
     (fun x => x.1 ≤ logs.length ∧ (x.2.1 = false → x.2.2 = []) ∧ x.2.2.length ≤ 1500 * x.1 ∧ wB (logs.drop x.1) x.2.2 = xF logs) (fun x => logs.length - x.1) (0, false, []) rfl rfl ⟨Nat.zero_le _, fun _ => rfl, by simp, by rw [← zhW]; rfl⟩ ?_
   rintro ⟨i, b, out⟩ ⟨hi, hb, ho, hj⟩
   simp only [] at hi hb ho hj
   by_cases hlt : i < logs.length
   · have c1 : (i : Int) < logs.length := by omega
     have c4 : IntKind.i64.wrap ((i : Int) + 1) = ((i + 1 : Nat) : Int) := by rw [wrap_in (by omega) (by omega)]; omega
     have e2 : logs.drop i = logs[i] :: logs.drop (i + 1) := List.drop_eq_getElem_cons hlt
     have hli := h5 _ (List.getElem_mem hlt)
     rw [e2, wB] at hj
     simp only [c1, c4, yA, Qs, if_true, Nat.reduceBEq, vv f22r3.eq_1, uu f22b27.eq_1, vv f22r28.eq_1, uu f22b29.eq_1, uu f22b30.eq_1, uu f22b31.eq_1, uu f22b32.eq_1, vv f22r33.eq_1, uu f22b34.eq_1, uu f22b35.eq_1]
     rw [zlj]
     refine zU (fun x : Nat × Bool × List Txt => [(0, lst 1 (lls logs)), (3, uG x.2.1 x.2.2), (4, .int .i64 i), (5, .int .i64 x.1)]) (fun _ => [])
       (fun x => i + 1 ≤ x.1 ∧ x.1 ≤ logs.length ∧ (x.2.1 = false → x.2.2 = []) ∧ x.2.2.length ≤ 1500 * i + 500 * (x.1 - (i + 1)) ∧ wB (logs.drop (i + 1)) (wA logs[i] (logs.drop x.1) x.2.2) = xF logs) (fun x => logs.length - x.1) (i + 1, b, out) rfl rfl ⟨Nat.le_refl _, by show i + 1 ≤ logs.length; omega, hb, by simp only []; omega, hj⟩ ?_
     rintro ⟨k, b2, out2⟩ ⟨hk0, hk, hb2, ho2, hj2⟩
     simp only [] at hk0 hk hb2 ho2 hj2
     by_cases hlt2 : k < logs.length
     · have d1 : (k : Int) < logs.length := by omega
       have d4 : IntKind.i64.wrap ((k : Int) + 1) = (k : Int) + 1 := wrap_in (by omega) (by omega)
       have e3 : logs.drop k = logs[k] :: logs.drop (k + 1) := List.drop_eq_getElem_cons hlt2
       rw [e3, wA] at hj2
       simp only [d1, yA, Qs, if_true, Nat.reduceBEq, vv f22r4.eq_1, uu f22b17.eq_1, vv f22r18.eq_1, uu f22b19.eq_1, uu f22b20.eq_1, uu f22b21.eq_1, uu f22b22.eq_1, vv f22r23.eq_1, uu f22b24.eq_1, uu f22b25.eq_1]
       rw [zli]
       refine zU (fun x : Nat × Bool × List Txt => [(0, lst 1 (lls logs)), (3, uG x.2.1 x.2.2), (4, .int .i64 i), (5, .int .i64 k), (6, .int .i64 x.1)]) (fun _ => [])
         (fun x => x.1 ≤ logs[i].length ∧ (x.2.1 = false → x.2.2 = []) ∧ x.2.2.length ≤ 1500 * i + 500 * (k - (i + 1)) + x.1 ∧ wB (logs.drop (i + 1)) (wA logs[i] (logs.drop (k + 1)) (vN x.2.2 ((logs[i].drop x.1).filter fun s => decide (s ∈ logs[k])))) = xF logs) (fun x => logs[i].length - x.1) (0, b2, out2) rfl rfl ⟨Nat.zero_le _, hb2, by simp only []; omega, hj2⟩ ?_
       rintro ⟨n, b3, out3⟩ ⟨hn, hb3, ho3, hj3⟩
       simp only [] at hn hb3 ho3 hj3
       by_cases hlt3 : n < logs[i].length
       · have f1 : (n : Int) < logs[i].length := by omega
         have f4 : IntKind.i64.wrap ((n : Int) + 1) = (n : Int) + 1 := wrap_in (by omega) (by omega)
         have e4 : logs[i].drop n = logs[i][n] :: logs[i].drop (n + 1) := List.drop_eq_getElem_cons hlt3
         rw [e4, List.filter_cons] at hj3
         simp only [c1, d1, f1, f4, yA, xG hlt, xG hlt2, strs_len, zX hlt3, zA, Qs, if_true, Nat.reduceBEq, vv f22r5.eq_1, vv f22r8.eq_1, uu f22b9.eq_1, uu f22b10.eq_1, uu f22b11.eq_1, uu f22b12.eq_1, vv f22r13.eq_1, uu f22b14.eq_1, uu f22b15.eq_1]
         refine sQ (v27 logs[k] logs[i][n]) ?_
         by_cases hm : logs[i][n] ∈ logs[k]
         · have hd : decide (logs[i][n] ∈ logs[k]) = true := decide_eq_true hm
           rw [if_pos hd] at hj3
           have hle := iJ out3 logs[i][n]
           have hbig : out3.length ≤ 1000000 := by omega
           simp only [V.fz, Abs.K.fz, hd, c1, d1, f1, f4, yA, xG hlt, xG hlt2, strs_len, zX hlt3, zA, Qs, Nat.reduceBEq, vv f22r6.eq_1, uu f22b7.eq_1]
           refine tG (v51 out3 logs[i][n] hbig) ?_ (hp := by cases b3 <;> rfl) (ha := by
             have e : zH [] (uG b3 out3) = uG b3 out3 := by cases b3 <;> rfl
             show [(zH [] (uG b3 out3)).norm, V.str logs[i][n]] = _
             rw [e, znq b3 hb3]) (ht := by cases b3 <;> rfl) (hf := by cases b3 <;> rfl)
           simp only [f4, Qs, if_true, Nat.reduceBEq, zgI, sK, qU, sL]
           refine Next.intro (n + 1, true, y6 out3 logs[i][n]) rfl rfl ⟨by show n + 1 ≤ logs[i].length; omega, fun e => absurd e (by simp), by show (y6 out3 logs[i][n]).length ≤ _; omega, hj3⟩ (by show logs[i].length - (n + 1) < logs[i].length - n; omega)
         · have hd : decide (logs[i][n] ∈ logs[k]) = false := decide_eq_false hm
           rw [if_neg (by simp [hd])] at hj3
           simp only [V.fz, Abs.K.fz, hd, f4, Qs, if_true, Nat.reduceBEq, qU, zk2, zk3, vv f22r6.eq_1, uu f22b7.eq_1]
           exact Next.intro (n + 1, b3, out3) rfl rfl ⟨by show n + 1 ≤ logs[i].length; omega, hb3, by simp only []; omega, hj3⟩ (by show logs[i].length - (n + 1) < logs[i].length - n; omega)
       · have f1 : ¬ (n : Int) < logs[i].length := by omega
         simp only [c1, d1, d4, f1, yA, xG hlt, strs_len, zA, Qs, if_true, if_false, reduceCtorEq, Nat.reduceEqDiff, Nat.reduceBEq, Nat.succ_ne_self, uu f22b12.eq_1, vv f22r13.eq_1, uu f22b14.eq_1, uu f22b15.eq_1]
         refine Next.intro (k + 1, b3, out3) rfl rfl ⟨by show i + 1 ≤ k + 1; omega, by show k + 1 ≤ logs.length; omega, hb3, by simp only []; omega, ?_⟩ (by show logs.length - (k + 1) < logs.length - k; omega)
         rw [List.drop_eq_nil_of_le (show logs[i].length ≤ n by omega), List.filter_nil] at hj3
         exact hj3
     · have d1 : ¬ (k : Int) < logs.length := by omega
       simp only [d1, c4, yA, Qs, if_true, if_false, reduceCtorEq, Nat.reduceBEq, Nat.succ_ne_self, uu f22b22.eq_1, vv f22r23.eq_1, uu f22b24.eq_1, uu f22b25.eq_1]
       refine Next.intro (i + 1, b2, out2) rfl rfl ⟨by show i + 1 ≤ logs.length; omega, hb2, by simp only []; omega, ?_⟩ (by show logs.length - (i + 1) < logs.length - i; omega)
       rw [List.drop_eq_nil_of_le (show logs.length ≤ k by omega), wA] at hj2
       exact hj2
   · have c1 : ¬ (i : Int) < logs.length := by omega
     rw [List.drop_eq_nil_of_le (by omega), wB] at hj
     simp only [c1, yA, Qs, if_true, Nat.reduceBEq, vv f22r1.eq_1, uu f22b2.eq_1, uu f22b32.eq_1, vv f22r33.eq_1, uu f22b34.eq_1, uu f22b35.eq_1]
     rw [znr b hb, hj]
     exact ⟨List.nodup_nil, hS _ (by simp [V.fz, Abs.K.fz, V.nrm, Abs.K.nrm, zA, V.toNew, K.toNew, lst])⟩
def agreeX (logs : List (List Txt)) : List Txt := if y0 logs = true then xF logs else []
def sT (logs : List (List Txt)) (i : Nat) : List Txt := (agreeX logs).filter fun s => decide (s ∉ logs.getD i [])
def tN (logs : List (List Txt)) (i : Int) : List Txt := if i < 0 ∨ i ≥ logs.length then [] else sT logs i.toNat
theorem zib (logs : List (List Txt)) : (agreeX logs).length ≤ 4000000 := by
 unfold agreeX
 by_cases h : y0 logs = true
 · rw [if_pos h]
   have h3 : (logs.length : Int) ≤ 3 := by
     unfold y0 at h
     simp only [Bool.and_eq_true, decide_eq_true_eq] at h
     exact h.1
   have h5 : ∀ l ∈ logs, l.length ≤ 500 := by
     unfold y0 at h
     simp only [Bool.and_eq_true, Bool.not_eq_true', List.any_eq_false] at h
     intro l hl
     have := h.2 l hl
     simp [xQ] at this
     omega
   rw [← zhW]
   have key : ∀ (r : List (List Txt)) (out : List Txt), (∀ l ∈ r, l.length ≤ 500) → (wB r out).length ≤ out.length + 500 * (r.length * r.length) := by
     intro r
     induction r with
     | nil => intro out _; simp [wB]
     | cons a r ih =>
       intro out hr
       have h1 := ih (wA a r out) fun l hl => hr l (List.mem_cons_of_mem _ hl)
       have h2 := zia a r out
       have h4 := hr a List.mem_cons_self
       have h6 : a.length * r.length ≤ 500 * r.length := Nat.mul_le_mul_right _ h4
       rw [wB, List.length_cons]
       have h7 : (r.length + 1) * (r.length + 1) = r.length * r.length + 2 * r.length + 1 := by rw [Nat.add_mul, Nat.mul_add]; omega
       rw [h7]
       omega
   have := key logs [] h5
   have h8 : logs.length * logs.length ≤ 3 * 3 := Nat.mul_le_mul (by omega) (by omega)
   simp only [List.length_nil] at this
   omega
 · rw [if_neg h]; simp
theorem v24 (logs : List (List Txt)) (i : Int) : Spec Tryz.prog 24 [lst 1 (lls logs), .int .i64 i] (fun r => r = lst 1 (strs (tN logs i))) := by
 refine Spec.of_awlP hf24 okf24 (by simp) fun S hS => ?_
 unfold tN at hS
 by_cases h1 : i < 0
 · rw [if_pos (.inl h1)] at hS
   simp only [h1, Qs, sJ, if_true, BEq.rfl, List.nodup_nil, List.nodup_cons, Nat.reduceAdd, Nat.reduceBEq, List.not_mem_nil, uu f24.eq_1, vv f24r23.eq_1, uu f24b24.eq_1, uu f24b25.eq_1, vv f24r26.eq_1, uu f24b27.eq_1, uu f24b28.eq_1, vv f24r29.eq_1, uu f24b30.eq_1]
   exact hS _ rfl
 · by_cases h2 : i ≥ logs.length
   · rw [if_pos (.inr h2)] at hS
     simp only [h1, h2, yA, Qs, if_true, if_false, BEq.rfl, List.nodup_nil, List.nodup_cons, Nat.reduceAdd, Nat.reduceBEq, List.not_mem_nil, uu f24.eq_1, vv f24r23.eq_1, uu f24b24.eq_1, uu f24b25.eq_1, vv f24r26.eq_1, uu f24b27.eq_1, uu f24b28.eq_1, vv f24r29.eq_1, uu f24b30.eq_1]
     exact hS _ rfl
   · rw [if_neg (fun h => h.elim h1 h2)] at hS
     obtain ⟨q, rfl⟩ : ∃ q : Nat, i = q := ⟨i.toNat, by omega⟩
     rw [Int.toNat_natCast] at hS
     have hq : q < logs.length := by omega
     have hq2 : (q : Int) < logs.length := by omega
     have hgd : logs.getD q [] = logs[q] := by simp [hq]
     unfold sT at hS
     rw [hgd] at hS
     have c22 := v22 logs
     have hle := zib logs
     rw [show (if y0 logs = true then xF logs else []) = agreeX logs from rfl] at c22
     generalize agreeX logs = L at hS c22 hle
     simp only [h1, h2, hq2, yA, xG hq, zW, Qs, if_true, if_false, Nat.reduceAdd, Nat.reduceBEq, uu f24.eq_1, vv f24r21.eq_1, uu f24b22.eq_1, uu f24b25.eq_1, vv f24r26.eq_1, uu f24b27.eq_1, uu f24b28.eq_1, vv f24r29.eq_1, uu f24b30.eq_1]
     refine zT c22 ?_ (ha := by simp [zH, V.norm, lst, zW])
     simp only [h1, h2, hq2, yA, xG hq, zW, Qs, o8, bne_iff_ne, ne_eq, Nat.reduceEqDiff, Nat.reduceBEq, uu f24b15.eq_1, vv f24r16.eq_1, uu f24b17.eq_1, uu f24b18.eq_1, vv f24r19.eq_1, uu f24b20.eq_1]
     rw [zll]
     refine zU (fun j : Nat => [(0, lst 1 (lls logs)), (1, .int .i64 q), (5, lst 1 (strs L)), (6, .k (.own 6)), (7, .int .i64 j)]) (fun j => [(6, .arr 9 1 (nlApp (some true) (strs ((L.take j).filter fun s => decide (s ∉ logs[q])))) (strs ((L.take j).filter fun s => decide (s ∉ logs[q]))))])
       (fun j => j ≤ L.length) (fun j => L.length - j) 0 rfl rfl (Nat.zero_le _) ?_
     intro j hj
     have hfl := List.length_filter_le (fun s => decide (s ∉ logs[q])) (L.take j)
     rw [List.length_take] at hfl
     by_cases hlt : j < L.length
     · have c1 : (j : Int) < L.length := by omega
       have c4 : IntKind.i64.wrap ((j : Int) + 1) = (j : Int) + 1 := wrap_in (by omega) (by omega)
       have e2 : L.take (j + 1) = L.take j ++ [L[j]] := by rw [List.take_add_one, List.getElem?_eq_getElem hlt]; rfl
       simp only [c1, c4, hq2, yA, xG hq, strs_len, zX hlt, zA, Qs, if_true, Nat.reduceBEq, vv f24r3.eq_1, vv f24r6.eq_1, uu f24b7.eq_1, uu f24b8.eq_1, uu f24b9.eq_1, uu f24b10.eq_1, vv f24r11.eq_1, uu f24b12.eq_1, uu f24b13.eq_1]
       refine sQ (v27 logs[q] L[j]) ?_
       by_cases hm : L[j] ∈ logs[q]
       · have hd : decide (L[j] ∈ logs[q]) = true := decide_eq_true hm
         have hd2 : decide (L[j] ∉ logs[q]) = false := decide_eq_false (fun h => h hm)
         have e3 : (L.take (j + 1)).filter (fun s => decide (s ∉ logs[q])) = (L.take j).filter (fun s => decide (s ∉ logs[q])) := by rw [e2, List.filter_append]; simp [hm]
         simp only [V.fz, Abs.K.fz, hd, c1, c4, hq2, yA, xG hq, strs_len, zX hlt, zA, Qs, zcU, if_true, Nat.reduceBEq, vv f24r4.eq_1, uu f24b5.eq_1]
         exact Next.intro (j + 1) rfl (by rw [e3]; rfl) (by omega) (by omega)
       · have hd : decide (L[j] ∈ logs[q]) = false := decide_eq_false hm
         have e3 : (L.take (j + 1)).filter (fun s => decide (s ∉ logs[q])) = (L.take j).filter (fun s => decide (s ∉ logs[q])) ++ [L[j]] := by rw [e2, List.filter_append]; simp [hm]
         have enl : ∀ (o2 : List Txt) (a : Txt), nlApp (some true) (strs (o2 ++ [a])) = some false := fun o2 a => by cases o2 <;> rfl
         simp only [V.fz, Abs.K.fz, hd, c1, c4, hq2, yA, xG hq, strs_len, zX hlt, uC, zA, Qs, zcU, if_true, if_false, forall_eq, bne_iff_ne, ne_eq, List.mem_cons, Nat.reduceEqDiff, Nat.reduceLeDiff, Nat.reduceLT, Nat.reduceBEq, List.not_mem_nil, vv f24r4.eq_1, uu f24b5.eq_1]
         exact ⟨by omega, by omega, Next.intro (j + 1) rfl (by rw [e3, enl]; rfl) (by omega) (by omega)⟩
     · have c1 : ¬ (j : Int) < L.length := by omega
       rw [List.take_of_length_le (by omega)]
       simp only [c1, strs_len, zA, Qs, if_true, List.nodup_nil, List.nodup_cons, Nat.reduceBEq, List.not_mem_nil, vv f24r1.eq_1, uu f24b2.eq_1, uu f24b10.eq_1, vv f24r11.eq_1, uu f24b12.eq_1, uu f24b13.eq_1]
       exact hS _ (by simp [V.fz, Abs.K.fz, V.nrm, Abs.K.nrm, z6, zA])
end Go.Abs
set_option maxRecDepth 100000
namespace Go.Proofs
open Go.Shelf Go.RowKit Go.Lib Go.Sort Go.Rg Go.Wire
abbrev srt (l : List Txt) : List Txt := l.mergeSort fun x y => decide (x ≤ y)
theorem zic (B : Nat) (v : Value) (ss : List Txt) (w : World) (h : w.ownsRow B 9 1 v ss.length (ss.map encStr)) (hl : ss.length < 4611686018427387904) :
   Calls Tryz.prog 49 #[v] w fun e w' => e = .returned (.tuple #[]) ∧ w'.ownsRow B 9 1 v ss.length ((srt ss).map encStr) ∧ w.grownBy w' v.ownBlock := by
 have hls : (srt ss).length = ss.length := List.length_mergeSort ss
 rcases h.2 with ⟨hv, h0⟩ | ⟨g, cap, cur, hv, hbase, hb, h1, h2, h3, h4⟩
 · subst hv
   have : ss = [] := List.eq_nil_of_length_eq_zero h0
   subst this
   refine (Any.slices_Sort_string_none Tryz.laysSort none 0 w).mono ?_
   rintro e w' ⟨rfl, rfl⟩
   have e0 : srt [] = [] := by simp [srt]
   rw [e0]
   exact ⟨rfl, h, World.grownBy.refl _ _⟩
 · subst hv
   refine (Any.slices_Sort_string Tryz.laysSort g 0 cap ss w (holds_of_block hb (by simpa using h4)) (Array.getElem?_eq_some_iff.1 hb).1 hl).mono ?_
   rintro e w' ⟨rfl, n, os, rfl⟩
   exact ⟨rfl, ownsRow_sorted (ts := srt ss) hls hbase hb h1 h2 h3, grownBy_sorted _⟩
theorem zns (B : Nat) (v : Value) (ss : List Txt) (w : World) (h : w.ownsRow B 9 1 v ss.length (ss.map encStr)) :
   Calls Tryz.prog 50 #[v] w fun e w' => ∃ p c, e = .returned (.slice p (compact ss).length c) ∧ (Value.slice p (compact ss).length c).ownBlock = v.ownBlock ∧ w'.ownsRow B 9 1 (.slice p (compact ss).length c) (compact ss).length ((compact ss).map encStr) ∧ w.grownBy w' v.ownBlock := by
 have hle := compact_length_le ss
 rcases h.2 with ⟨hv, h0⟩ | ⟨g, cap, cur, hv, hbase, hb, h1, h2, h3, h4⟩
 · subst hv
   have : ss = [] := List.eq_nil_of_length_eq_zero h0
   subst this
   refine (Any.slices_Compact_string_empty Tryz.laysCompact none 0 w).mono ?_
   rintro e w' ⟨rfl, rfl⟩
   exact ⟨none, 0, rfl, rfl, h, World.grownBy.refl _ _⟩
 · subst hv
   have hm : ss.length ≤ maxLen := Nat.le_trans h1 h2
   refine (Any.slices_Compact_string Tryz.laysCompact g 0 cap ss w (holds_of_block hb (by simpa using h4)) (by simp only [maxLen] at hm; omega) h1).mono ?_
   rintro e w' ⟨rfl, q, rfl⟩
   have hc := ownsRow_putRow (q := q) (k := (compact ss).length) (ys := compact ss ++ List.replicate (ss.length - (compact ss).length) []) h (by simp; omega) hle
   rw [List.take_left] at hc
   have hg := grownBy_sorted (w := w) (g := g) (n := q) (os := #[]) (compact ss ++ List.replicate (ss.length - (compact ss).length) []).toArray
   rw [grow_empty] at hg
   exact ⟨_, cap, rfl, rfl, hc, hg⟩
theorem znt (l : List Txt) (hl : l.length ≤ 8796093022208) (v : Value) (w : World) (Z : Go.Abs.Bk → Prop) (hv : Go.Abs.PRep w Z (Go.Abs.lstC 1 (Go.Abs.strs l)) v) :
   Calls Tryz.prog 37 #[v] w fun e w' => ∃ v', e = .returned v' ∧ w'.ownsRow w.heap.size 9 1 v' l.length (l.map encStr) ∧ Below w.heap.size w w' := by
 obtain ⟨p, k, rfl, q, m⟩ := (Go.Abs.plain_strs l).slice hv
 by_cases h0 : l = []
 · subst h0
   cases p with
   | none =>
     refine (Any.slices_Clone_string_nil Tryz.laysClone 0 k w).mono ?_
     rintro e w' ⟨rfl, rfl⟩
     exact ⟨_, rfl, ⟨rfl, .inl ⟨rfl, rfl⟩⟩, Below.refl _ _⟩
   | some a =>
     refine (Any.slices_Clone_string_zero Tryz.laysClone a k w).mono ?_
     rintro e w' ⟨v', rfl, ho, _, hb⟩
     exact ⟨_, rfl, ho, hb⟩
 · have hpos : 0 < (Go.Abs.strs l).length := by rw [Go.Abs.strs_len]; exact List.length_pos_iff.2 h0
   obtain ⟨b, o, rfl, g⟩ := q hpos
   refine (Any.slices_Clone_string Tryz.laysClone b o (Go.Abs.strs l).length k (l.map fun s => (⟨s.toArray⟩ : ByteArray)) w (by rw [Go.Abs.strs_len, List.length_map]; exact Nat.le_refl _) (by rw [Go.Abs.strs_len]; omega) ?_).mono ?_
   · intro j hj
     refine g j _ ?_
     rw [Go.Abs.cells_strs, List.getElem?_map, List.getD_eq_getElem?_getD, List.getElem?_eq_getElem hj]; rfl
   · rintro e w' ⟨v', rfl, ho, _, hb⟩
     rw [List.take_of_length_le (by rw [Go.Abs.strs_len, List.length_map]; exact Nat.le_refl _), Go.Abs.strs_len, List.map_map] at ho
     exact ⟨_, rfl, ho, hb⟩
theorem znu {α : Type} [Inhabited α] [DecidableEq α] (zs : List α) (x : α) : x ∈ compact zs ↔ x ∈ zs := by
 unfold compact compactUpTo
 constructor
 · intro h
   obtain ⟨i, hi, rfl⟩ := List.mem_map.1 h
   have hi' : i < zs.length := List.mem_range.1 (List.mem_filter.1 hi).1
   simp [getElem!_pos, hi']
 · intro h
   obtain ⟨i, hi, rfl⟩ := List.getElem_of_mem h
   suffices H : ∀ i (hi : i < zs.length), ∃ j, j < zs.length ∧ keeps zs.toArray j = true ∧ zs.toArray[j]! = zs[i] by
     obtain ⟨j, h1, h2, h3⟩ := H i hi
     exact List.mem_map.2 ⟨j, List.mem_filter.2 ⟨List.mem_range.2 h1, h2⟩, h3⟩
   intro i
   induction i with
   | zero => intro hi; exact ⟨0, hi, by simp [keeps], by simp [getElem!_pos, hi]⟩
   | succ i ih =>
     intro hi
     by_cases he : zs.toArray[i + 1]! = zs.toArray[i]!
     · obtain ⟨j, h1, h2, h3⟩ := ih (by omega)
       refine ⟨j, h1, h2, h3.trans ?_⟩
       rw [getElem!_pos _ _ (by simpa using hi), getElem!_pos _ _ (by simp; omega)] at he
       simpa using he.symm
     · exact ⟨i + 1, hi, decide_eq_true (Or.inr he), by rw [getElem!_pos _ _ (by simpa using hi)]; simp⟩
theorem znv {zs : List Txt} (h : zs.Pairwise (fun x y => decide (x ≤ y) = true)) : (compact zs).Nodup := by
 unfold compact compactUpTo List.Nodup
 rw [List.pairwise_map]
 have h1 : ((List.range zs.length).filter (keeps zs.toArray)).Pairwise (fun a b => a < b ∧ b < zs.length ∧ keeps zs.toArray b = true) := by
   have h2 : ((List.range zs.length).filter (keeps zs.toArray)).Pairwise (· < ·) := List.pairwise_lt_range.filter _
   refine h2.imp_of_mem fun {a b} ha hb hab => ⟨hab, List.mem_range.1 (List.mem_filter.1 hb).1, (List.mem_filter.1 hb).2⟩
 refine h1.imp fun {a b} ⟨hab, hb, hk⟩ heq => ?_
 obtain ⟨m, rfl⟩ : ∃ m, b = m + 1 := ⟨b - 1, by omega⟩
 have hk2 : zs.toArray[m + 1]! ≠ zs.toArray[m]! := by simpa [keeps] using hk
 rw [getElem!_pos _ _ (by simpa using hb), getElem!_pos _ _ (by simp; omega)] at hk2
 rw [getElem!_pos _ _ (by simp; omega), getElem!_pos _ _ (by simpa using hb)] at heq
 simp only [List.getElem_toArray] at hk2 heq
 have h3 := List.pairwise_iff_getElem.1 h m (m + 1) (by omega) hb (by omega)
 have h3 : zs[m] ≤ zs[m + 1] := of_decide_eq_true h3
 apply hk2
 have h4 : zs[a] ≤ zs[m] := by
   by_cases e : a = m
   · subst e; exact List.le_refl _
   · exact of_decide_eq_true (List.pairwise_iff_getElem.1 h a m (by omega) (by omega) (by omega))
 rw [heq] at h4
 exact List.le_antisymm h4 h3
end Go.Proofs
set_option maxRecDepth 100000
namespace Go.Proofs
open Go.Shelf Go.RowKit Go.Lib Go.Maps Go.Rg Go.Wire
open Go.ChangeMaps
theorem r4 : Keyed Tryz.prog 9 := string_keyed Tryz.underlying9
theorem n0 (w : World) : (zeroValue 3).run Tryz.prog w = .ok (.int .i64 0) w := by kernel_rfl
def uV (S : Nat → List Txt) : Nat → Txt → Nat
 | 0, _ => 0
 | k + 1, s => uV S k s + if s ∈ S k then 1 else 0
theorem zid (S : Nat → List Txt) (s : Txt) : ∀ k, uV S k s ≤ k
 | 0 => Nat.le_refl _
 | k + 1 => by
   have := zid S s k
   simp only [uV]; split <;> omega
def xH (S : Nat → List Txt) (k : Nat) (pre : List Txt) (s : Txt) : Nat := uV S k s + if s ∈ pre then 1 else 0
theorem znw (S : Nat → List Txt) (k : Nat) (pre : List Txt) (s : Txt) : xH S k pre s ≤ k + 1 := by
 have := zid S s k
 unfold xH; split <;> omega
structure AgC (S : Nat → List Txt) (w : World) (bm k : Nat) (pre : List Txt) (D : DataW Unit) (m : Nat) (out : List Txt) (vo : Value) (wr : World) : Prop where
 own : wr.ownsMap Tryz.prog 9 (plainElem Tryz.prog 3) bm m D
 isM : IsMap D
 at_ : ∀ s : Txt, D.atKey (.string s) (.lit (.int .i64 0)) = .lit (.int .i64 (xH S k pre s : Nat))
 row : wr.ownsRow (bm + 1) 9 1 vo out.length (out.map encStr)
 nod : out.Nodup
 mem : ∀ s, s ∈ out ↔ 2 ≤ xH S k pre s
 hm : m ≤ k * 500 + pre.length
 ho : out.length ≤ m
 bel : Below w.heap.size w wr
 hb : w.heap.size ≤ bm
variable {S : Nat → List Txt} {w wr w' : World} {bm k m : Nat} {pre : List Txt} {D : DataW Unit} {out : List Txt} {vo : Value}
theorem AgC.start {w1 : World} (h : Below w.heap.size w w1) : AgC S w w1.heap.size 0 [] (.map []) 0 [] (.slice none 0 0) (w1.alloc (.map #[] 0)) :=
 ⟨World.ownsMap_made _ _ _ _, ⟨[], rfl⟩, fun s => by simp [xH, uV]; rfl, ⟨rfl, .inl ⟨rfl, rfl⟩⟩, List.nodup_nil, fun s => by simp [xH, uV], by simp, Nat.le_refl _, h.alloc h.size _, h.size⟩
theorem AgC.grown {row : Option Nat} (A : AgC S w bm k pre D m out vo wr) (hg : wr.grownBy w' row) (h1 : row ≠ some bm) (h2 : vo.ownBlock = none ∨ vo.ownBlock ≠ row) (h3 : ∀ j, row = some j → w.heap.size ≤ j) : AgC S w bm k pre D m out vo w' :=
 ⟨A.own.kept hg (fun e => h1 e.symm), A.isM, A.at_, A.row.kept hg h2, A.nod, A.mem, A.hm, A.ho, A.bel.grown hg A.bel.size h3, A.hb⟩
theorem AgC.own_new {w2 : World} {n : Nat} {xs : List Value} {v1 : Value} (A : AgC S w bm k pre D m out vo wr) (h : w2.ownsRow wr.heap.size 9 1 v1 n xs) :
   v1.ownBlock ≠ some bm ∧ (vo.ownBlock = none ∨ vo.ownBlock ≠ v1.ownBlock) ∧ ∀ j, v1.ownBlock = some j → w.heap.size ≤ j := by
 have hl := A.own.lt
 refine ⟨fun e => by have := (h.lt bm e).1; omega, ?_, fun j hj => Nat.le_trans A.bel.size (h.lt j hj).1⟩
 cases ho : vo.ownBlock with
 | none => exact .inl rfl
 | some b => exact .inr fun e => by have h1 := (A.row.lt b ho).2; have h2 := (h.lt b e.symm).1; omega
theorem znx {a b : World} (h : Below a.heap.size a b) : a.grownBy b none := ⟨h.os, h.tape, h.output, h.size, fun k hk _ => h.block k hk⟩
theorem AgC.next {cl : List Txt} (A : AgC S w bm k cl D m out vo wr) (h : ∀ s, s ∈ cl ↔ s ∈ S k) (hl : cl.length ≤ 500) : AgC S w bm (k + 1) [] D m out vo wr := by
 have e : ∀ s, xH S k cl s = xH S (k + 1) [] s := fun s => by simp [xH, uV, h]
 exact ⟨A.own, A.isM, fun s => by rw [A.at_, e], A.row, A.nod, fun s => by rw [A.mem, e], by have := A.hm; simp; omega, A.ho, A.bel, A.hb⟩
theorem n4 {s : Txt} (hs : s ∉ pre) : xH S k (pre ++ [s]) s = xH S k pre s + 1 := by simp [xH, hs]
theorem n5 {s x : Txt} (hx : x ≠ s) : xH S k (pre ++ [s]) x = xH S k pre x := by simp [xH, hx]
theorem AgC.row_put (A : AgC S w bm k pre D m out vo wr) (hg : wr.grownBy w' (some bm)) : w'.ownsRow (bm + 1) 9 1 vo out.length (out.map encStr) := by
 refine A.row.kept hg ?_
 cases ho : vo.ownBlock with
 | none => exact .inl rfl
 | some b => exact .inr fun e => by cases e; have := (A.row.lt _ ho).1; omega
theorem AgC.skip {s : Txt} {y : Int} (A : AgC S w bm k pre D m out vo wr) (hs : s ∉ pre) (hy : y = (xH S k pre s : Nat) + 1) (h2 : y ≠ 2)
   (hm1 : w'.ownsMap Tryz.prog 9 (plainElem Tryz.prog 3) bm (m + 1) (D.put (.string s) (.lit (.int .i64 y)))) (hg : wr.grownBy w' (some bm)) :
   AgC S w bm k (pre ++ [s]) (D.put (.string s) (.lit (.int .i64 y))) (m + 1) out vo w' := by
 refine ⟨hm1, A.isM.put _ _, fun x => ?_, A.row.kept hg ?_, A.nod, fun x => ?_, by have := A.hm; simp; omega, by have := A.ho; omega, A.bel.grown hg A.bel.size (fun j hj => by cases hj; exact A.hb), A.hb⟩
 · by_cases hx : x = s
   · subst hx
     rw [atKey_put_same A.isM (show WideAt.IsKeyLit (.string x) from trivial), n4 hs, hy]; rfl
   · rw [atKey_put_other (fun e => hx (by cases e; rfl)), A.at_, n5 hx]
 · cases ho : vo.ownBlock with
   | none => exact .inl rfl
   | some b => exact .inr fun e => by cases e; have := (A.row.lt _ ho).1; omega
 · rw [A.mem]
   by_cases hx : x = s
   · subst hx
     rw [n4 hs]
     omega
   · rw [n5 hx]
theorem AgC.app {s : Txt} {o : Obj} {v' : Value} {w2 : World} (A : AgC S w bm k pre D m out vo wr) (hs : s ∉ pre) (hy : (2 : Int) = (xH S k pre s : Nat) + 1)
   (hm1 : w'.ownsMap Tryz.prog 9 (plainElem Tryz.prog 3) bm (m + 1) (D.put (.string s) (.lit (.int .i64 2)))) (hg : wr.grownBy w' (some bm))
   (hr : w2.ownsRow (bm + 1) 9 1 v' (out.length + 1) (out.map encStr ++ [encStr s])) (hg2 : (w'.alloc o).grownBy w2 vo.ownBlock) :
   AgC S w bm k (pre ++ [s]) (D.put (.string s) (.lit (.int .i64 2))) (m + 1) (out ++ [s]) v' w2 := by
 have hne : some bm ≠ vo.ownBlock := fun e => by have := (A.row.lt _ e.symm).1; omega
 have hns : s ∉ out := fun h => by have := (A.mem s).1 h; omega
 have hb' : Below w.heap.size w w' := A.bel.grown hg A.bel.size (fun j hj => by cases hj; exact A.hb)
 refine ⟨(hm1.alloc o).kept hg2 hne, A.isM.put _ _, fun x => ?_, by simpa using hr, List.nodup_append.2 ⟨A.nod, by simp, fun a ha b hb => by simp at hb; subst hb; exact fun e => hns (e ▸ ha)⟩, fun x => ?_, by have := A.hm; simp; omega, by have := A.ho; simp; omega,
   (hb'.alloc hb'.size o).grown hg2 (hb'.alloc hb'.size o).size (fun j hj => by have := (A.row.lt _ hj).1; have := A.hb; omega), A.hb⟩
 · by_cases hx : x = s
   · subst hx
     rw [atKey_put_same A.isM (show WideAt.IsKeyLit (.string x) from trivial), n4 hs]
     congr 2
   · rw [atKey_put_other (fun e => hx (by cases e; rfl)), A.at_, n5 hx]
 · rw [List.mem_append, A.mem]
   by_cases hx : x = s
   · subst hx
     rw [n4 hs]
     simp; omega
   · rw [n5 hx]; simp [hx]
end Go.Proofs
set_option maxRecDepth 100000
set_option maxHeartbeats 4000000
namespace Go.Proofs
open Go.Shelf Go.RowKit Go.Lib Go.Maps Go.Rg Go.Wire
open Go.ChangeMaps
theorem pF {p : Prop} (h : p) : Aside p := h
theorem zny (o : Option Nat) : o = none ∨ o ≠ none := by cases o <;> simp
theorem n7 {a b : Int} (h : (DataW.lit (.int .i64 a) : DataW Unit) = .lit (.int .i64 b)) : a = b := by cases h; rfl
theorem znz {a b : Option Nat} (h : a = none ∨ a ≠ b) : b = none ∨ b ≠ a := by
 rcases h with rfl | h
 · cases b <;> simp
 · exact .inr fun e => h e.symm
theorem znA (p0 : Option Addr) (b o n c : Nat) (S : Nat → List Txt) (V : Nat → Value) (w : World) (h3 : n ≤ 3)
   (h48 : Calls Tryz.prog 48 #[.slice p0 n c] w fun e w' => e = .returned (.bool true) ∧ Below w.heap.size w w')
   (I0 : Aside (n ≠ 0 → p0 = some ⟨b, o, none⟩)) (I : Aside ((∀ k, k < n → ∀ w', Below w.heap.size w w' → w'.cell? ⟨b, o + k, none⟩ = some (V k)) ∧
     (∀ k, k < n → ∀ w', Below w.heap.size w w' → Calls Tryz.prog 37 #[V k] w' fun e w2 => ∃ v', e = .returned v' ∧ w2.ownsRow w'.heap.size 9 1 v' (S k).length ((S k).map encStr) ∧ Below w'.heap.size w' w2) ∧
     (∀ k, k < n → (S k).length ≤ 500) ∧ ∀ k, k < n → ∀ s ∈ S k, s.length ≤ maxLen)) :
   Calls Tryz.prog 21 #[.slice p0 n c] w fun e w' => ∃ bm D m out vo w3, AgC S w bm n [] D m out vo w3 ∧ e = .returned vo ∧ w'.ownsRow (bm + 1) 9 1 vo out.length ((srt out).map encStr) ∧ w3.grownBy w' vo.ownBlock := by
 have hmm := @run_makeMap Tryz.prog
 obtain ⟨i0, hi, hz0, hz1, hz2⟩ := info_parts (P := Tryz.prog) (e := 9) (z := .string ⟨#[]⟩) (size := 1) (bytes := 16) (by kernel_rfl)
 go_enter Tryz.func21, Tryz.ntmps21
 go_wp2_with (go_at_call 48; refine h48.mono ?_; rintro e w1 ⟨rfl, hb1⟩)
 clear h48 hmm
 go_loopg [15, 4] n (fun g i vo wr => ∃ k D m out, k ≤ n ∧ g = n - k ∧ i = .int .i64 (k : Nat) ∧ AgC S w w1.heap.size k [] D m out vo wr)
 case atStart => exact ⟨0, _, _, _, Nat.zero_le _, rfl, rfl, AgC.start hb1⟩
 case round =>
   obtain ⟨k, D, m, out, hk, rfl, rfl, A⟩ := hrel
   by_cases hlt : k < n
   · have hlt' : (k : Int) < n := by omega
     obtain rfl := I0.out (by omega)
     have hcell := I.out.1 k hlt wr A.bel
     have c37 := I.out.2.1 k hlt wr A.bel
     have hS := I.out.2.2.1 k hlt
     obtain ⟨cl, hcl⟩ : ∃ cl, compact (srt (S k)) = cl := ⟨_, rfl⟩
     have hsl : (srt (S k)).length = (S k).length := List.length_mergeSort _
     have F : Aside (cl.Nodup ∧ (∀ s, s ∈ cl ↔ s ∈ S k) ∧ cl.length ≤ 500) := ⟨by rw [← hcl]; exact znv (List.pairwise_mergeSort (le := fun x y => decide (x ≤ y)) (fun a b c h1 h2 => decide_eq_true (List.le_trans (of_decide_eq_true h1) (of_decide_eq_true h2))) (fun a b => by simpa using List.le_total a b) _),
       fun s => by rw [← hcl, znu]; exact List.mem_mergeSort, by have := compact_length_le (srt (S k)); rw [hcl] at this; omega⟩
     have hC := pF hcl
     have hS' : (S k).length < 4611686018427387904 := by omega
     clear hcl hsl hS
     go_wp2_with (first
       | (go_at_call 50; refine c50.mono ?_; (rintro e w4 ⟨p, cc, rfl, hob, ho4, hg4⟩; have A4 := pF (A3.out.2.grown hg4 X3.out.1 X3.out.2.1 X3.out.2.2); clear c50))
       | (go_at_call 49; refine c49.mono ?_; (rintro e w3 ⟨rfl, ho3, hg3⟩; have A3 := pF (And.intro ho3 (A2.out.grown hg3 X3.out.1 X3.out.2.1 X3.out.2.2)); have c50 := zns wr.heap.size v1 (srt (S k)) w3 (by have e := List.length_mergeSort (le := fun x y => decide (x ≤ y)) (S k); rw [show (srt (S k)).length = (S k).length from e]; exact ho3); rw [hC.out] at c50; clear c49 ho3 hg3))
       | (go_at_call 37; refine c37.mono ?_; (rintro e w2 ⟨v1, rfl, ho2, hb2⟩; have X3 := pF (A.own_new ho2); have A2 := pF (A.grown (znx hb2) (by simp) (zny _) (by simp)); have c49 := zic wr.heap.size v1 (S k) w2 ho2 hS'; clear c37 ho2 hb2)))
     have hR : w4.ownsRow (w1.heap.size + 1) 9 1 (.slice p cl.length cc) cl.length (cl.map encStr) := ho4.mono A.own.lt
     have hN : u4.ownBlock = none ∨ u4.ownBlock ≠ (Value.slice p cl.length cc).ownBlock := by rw [hob]; exact X3.out.2.1
     have A5 := A4.out
     clear ho4 hob hg4 X3 A2 A3 hcell hC hS' A4
     go_loopg [26, 4] cl.length (fun g i vo wi => ∃ j D m out, j ≤ cl.length ∧ g = cl.length - j ∧ i = .int .i64 (j : Nat) ∧ AgC S w w1.heap.size k (cl.take j) D m out vo wi ∧ wi.ownsRow (w1.heap.size + 1) 9 1 (.slice p cl.length cc) cl.length (cl.map encStr) ∧ (vo.ownBlock = none ∨ vo.ownBlock ≠ (Value.slice p cl.length cc).ownBlock))
     case atStart => exact ⟨0, _, _, _, Nat.zero_le _, rfl, rfl, A5, hR, hN⟩
     case round =>
       obtain ⟨j, D', m', out', hj, rfl, rfl, A6, hR6, hN6⟩ := hrel
       by_cases hjl : j < cl.length
       · have hjl' : (j : Int) < cl.length := by omega
         obtain ⟨g, rfl⟩ : ∃ g, p = some ⟨g, 0, none⟩ := by
           rcases hR6.2 with ⟨_, h0⟩ | ⟨g, _, _, h, _⟩
           · omega
           · cases h; exact ⟨g, rfl⟩
         obtain ⟨s, hs⟩ : ∃ s, cl[j] = s := ⟨_, rfl⟩
         have hcs : wr.cell? ⟨g, j, none⟩ = some (Value.string ⟨s.toArray⟩) := by
           have h1 := hR6.cells (g := g) rfl j (encStr cl[j]) (by simp [hjl])
           rw [Addr.add_lit, Nat.zero_add, hs] at h1; exact h1
         have hsm : s ∈ cl := by rw [← hs]; exact List.getElem_mem hjl
         have htk : cl.take (j + 1) = cl.take j ++ [s] := by rw [List.take_succ_eq_append_getElem hjl, hs]
         have hns : s ∉ cl.take j := fun h => by
           have h1 := F.out.1
           rw [← List.take_append_drop j cl, List.nodup_append] at h1
           exact h1.2.2 s h s (by rw [← hs]; exact List.mem_iff_getElem.2 ⟨0, by simp; omega, by simp⟩) rfl
         have hkey : keyOf Tryz.prog 9 (.string ⟨s.toArray⟩) = some (.string s) := by
           have h1 := WideMaps.keyOf_string_mk Tryz.underlying9 (s := ⟨s.toArray⟩) (by have := I.out.2.2.2 k hlt s ((F.out.2.1 s).1 hsm); simpa [ByteArray.size] using this)
           simpa using h1
         obtain ⟨z, hz⟩ : ∃ z : Int, z = (xH S k (cl.take j) s : Nat) := ⟨_, rfl⟩
         obtain ⟨y, hy⟩ : ∃ y : Int, y = z + 1 := ⟨_, rfl⟩
         have hz9 := znw S k (cl.take j) s
         have ws : IntKind.i64.wrap (z + 1) = y := by rw [hy]; exact Go.Abs.wrap_in (by omega) (by omega)
         have wj : IntKind.i64.wrap ((j : Int) + 1) = ((j + 1 : Nat) : Int) := by have := F.out.2.2; rw [Go.Abs.wrap_in (by omega) (by omega)]; omega
         have hm9 := A6.hm
         have ho9 := A6.ho
         have hl9 : (cl.take j).length ≤ 500 := Nat.le_trans (by simp; omega) F.out.2.2
         have Z : Aside (keyOf Tryz.prog 9 (.string ⟨s.toArray⟩) = some (.string s) ∧ m' < maxLen ∧ plainElem (H := Unit) Tryz.prog 3 (.int .i64 y) = some (.lit (.int .i64 y), []) ∧ z = (xH S k (cl.take j) s : Nat) ∧ y = z + 1 ∧ out'.length + 1 ≤ maxLen ∧ (out'.length + 1) * 16 ≤ 140737488355328) :=
           ⟨hkey, by unfold maxLen; omega, plainElem_int Tryz.underlying3 (by simp [Lit.wf, IntKind.min, IntKind.max, IntKind.signed, IntKind.bits]; omega), hz, hy, by unfold maxLen; omega, by omega⟩
         have Y : Aside (cl.take (j + 1) = cl.take j ++ [s] ∧ s ∉ cl.take j) := ⟨htk, hns⟩
         clear hkey hm9 ho9 hl9 hz9 hs hsm htk hns hz hj
         by_cases h2 : y = 2
         · subst h2
           clear hy
           go_wp2_with (first
         | ((at_lookup; (refine wpList_lookup_own_int _ rfl _ _ 61 rfl 9 3 .i64 r4 Tryz.underlying61 Tryz.underlying3 (n0 _) w1.heap.size (m' + 1) (D'.put (.string s) (.lit (.int .i64 2))) rfl hm1 _ (.string s) rfl Z.out.1 ?_; intro c0 hat hwc; have e : c0 = 2 := n7 (hat.symm.trans (atKey_put_same A6.isM (show WideAt.IsKeyLit (.string s) from trivial) _ _)); rw [e]; clear e hat hwc c0)))
         | ((at_lookup; (refine wpList_lookup_own_int _ rfl _ _ 61 rfl 9 3 .i64 r4 Tryz.underlying61 Tryz.underlying3 (n0 _) w1.heap.size (m') (D') rfl A6.own _ (.string s) rfl Z.out.1 ?_; intro c0 hat hwc; have e : c0 = z := (n7 (hat.symm.trans (A6.at_ s))).trans Z.out.2.2.2.1.symm; rw [e]; clear e hat hwc c0)))
         | ((at_mapUpdate; refine wpList_mapUpdate_own _ rfl _ _ _ 61 rfl 9 3 r4 Tryz.underlying61 _ w1.heap.size m' D' rfl A6.own Z.out.2.1 _ _ (.string s) rfl rfl Z.out.1 (.lit (.int .i64 2)) [] Z.out.2.2.1 ?_; intro w5 hm1 hg1))
         | (at_builtin; refine wpList_append_own_at _ rfl _ _ 22 rfl (w1.heap.size + 1) 9 i0 (.string ⟨#[]⟩) 1 16 Tryz.underlying22 hi hz0 hz1 hz2 rfl (by decide) _ _ _ rfl ((A6.row_put hg1).alloc _) ⟨w5.heap.size, 0, none⟩ 1 1 [.string ⟨s.toArray⟩] rfl rfl (cell_one_new _ _ _) (by intro u hu; rw [List.mem_singleton.1 hu]; rfl) Z.out.2.2.2.2.2.1 Z.out.2.2.2.2.2.2 (by have := A6.own.lt; have := hg1.size; simp; omega) ?_; intro v6 w6 hr6 hg6 hnil6 hat6; clear hnil6))
           have hg7 : (w5.alloc (.cells #[Value.string ⟨s.toArray⟩] 9)).grownBy w6 u4.ownBlock := hg6
           have hat7 : v6.ownBlock = u4.ownBlock ∨ v6.ownBlock = some (w5.alloc (.cells #[Value.string ⟨s.toArray⟩] 9)).heap.size := hat6
           have hR5 := (hR6.kept hg1 (.inr (Ne.symm (row_ne_low hR6 (Nat.lt_succ_self _))))).alloc (.cells #[Value.string ⟨s.toArray⟩] 9)
           have hR7 := hR5.kept hg7 (znz hN6)
           have hN7 : v6.ownBlock = none ∨ v6.ownBlock ≠ (Value.slice (some ⟨g, 0, none⟩) cl.length cc).ownBlock := by
             rcases hat7 with h | h
             · rw [h]; exact hN6
             · rw [h]; exact .inr fun e => by have h1 := (hR5.lt _ e.symm).2; omega
           clear hat6 hg6 hat7
           go_roundg (cl.length - (j + 1))
           case rel => exact ⟨j + 1, _, _, _, hjl, rfl, by go_num, by rw [Y.out.1]; exact A6.app Y.out.2 (by have h1 := Z.out.2.2.2.1; have h2 := Z.out.2.2.2.2.1; omega) hm1 hg1 hr6 hg7, hR7, hN7⟩
           case measure => omega
         · clear hy
           go_wp2_with (first
         | ((at_lookup; (refine wpList_lookup_own_int _ rfl _ _ 61 rfl 9 3 .i64 r4 Tryz.underlying61 Tryz.underlying3 (n0 _) w1.heap.size (m' + 1) (D'.put (.string s) (.lit (.int .i64 y))) rfl hm1 _ (.string s) rfl Z.out.1 ?_; intro c0 hat hwc; have e : c0 = y := n7 (hat.symm.trans (atKey_put_same A6.isM (show WideAt.IsKeyLit (.string s) from trivial) _ _)); rw [e]; clear e hat hwc c0)))
         | ((at_lookup; (refine wpList_lookup_own_int _ rfl _ _ 61 rfl 9 3 .i64 r4 Tryz.underlying61 Tryz.underlying3 (n0 _) w1.heap.size (m') (D') rfl A6.own _ (.string s) rfl Z.out.1 ?_; intro c0 hat hwc; have e : c0 = z := (n7 (hat.symm.trans (A6.at_ s))).trans Z.out.2.2.2.1.symm; rw [e]; clear e hat hwc c0)))
         | ((at_mapUpdate; refine wpList_mapUpdate_own _ rfl _ _ _ 61 rfl 9 3 r4 Tryz.underlying61 _ w1.heap.size m' D' rfl A6.own Z.out.2.1 _ _ (.string s) rfl rfl Z.out.1 (.lit (.int .i64 y)) [] Z.out.2.2.1 ?_; intro w5 hm1 hg1)))
           have hR5 := hR6.kept hg1 (.inr (Ne.symm (row_ne_low hR6 (Nat.lt_succ_self _))))
           go_roundg (cl.length - (j + 1))
           case rel => exact ⟨j + 1, _, _, _, hjl, rfl, by go_num, by rw [Y.out.1]; exact A6.skip Y.out.2 (by have h1 := Z.out.2.2.2.1; have h2 := Z.out.2.2.2.2.1; omega) h2 hm1 hg1, hR5, hN6⟩
           case measure => omega
       · obtain rfl : j = cl.length := by omega
         rw [List.take_length] at A6
         have A7 := A6.next F.out.2.1 F.out.2.2
         have wk : IntKind.i64.wrap ((k : Int) + 1) = ((k + 1 : Nat) : Int) := by rw [Go.Abs.wrap_in (by omega) (by omega)]; omega
         clear A6 A5 hR hN hR6 hN6 A
         go_wp2
         go_roundg (n - (k + 1))
         case rel => exact ⟨k + 1, _, _, _, hlt, rfl, by go_num, A7⟩
         case measure => omega
   · obtain rfl : k = n := by omega
     have hm9 := A.hm
     have ho9 := A.ho
     have c49 := zic (w1.heap.size + 1) u4 out wr A.row (by simp at hm9; omega)
     clear hm9 ho9
     go_wp2_with (go_at_call 49; refine c49.mono ?_; rintro e w3 ⟨rfl, ho3, hg3⟩)
     go_ret
     exact ⟨w1.heap.size, D, m, out, u4, wr, A, rfl, ho3, hg3⟩
end Go.Proofs
set_option maxRecDepth 100000
set_option maxHeartbeats 4000000
namespace Go.Abs
open Go.Proofs Go.Wire Go.RowKit Go.Jr Go.Rg
theorem Spec.calls_bool {f : FuncId} {x : V} {v : Value} {t : Bool} (h : Spec Tryz.prog f [x] (fun r => r = .bool t)) {W : World} {Z : Bk → Prop} (hG : yP (base W)) (hz : ∀ b, Z b → b.2 < W.heap.size) (ha : uW W Z [x] [v]) :
   Calls Tryz.prog f #[v] W fun e W' => e = .returned (.bool t) ∧ Below W.heap.size W W' := by
 refine (h.2 W Z #[v] hG hz ha).mono ?_
 rintro e w' ⟨u, r, rfl, rfl, _, hr⟩
 obtain ⟨κ, hi⟩ := hr 0
 have h0 := hi.tmps 0
 have h1 : zE w' _ κ _ (V.bool t) u := h0
 have h2 := h1.2
 have h3 : u = .bool t := by
   have h4 : PRep w' _ (.bool t) u := h2
   cases h4; rfl
 exact ⟨by rw [h3], zhp hi.kept⟩
theorem iK {l : List (List Txt)} {w : World} {Z : Bk → Prop} {v : Value} (hz : ∀ b, Z b → b.2 < w.heap.size) (hv : PRep w Z (lstC 1 (lls l)) v) :
   ∃ p cap b o, ∃ V : Nat → Value, v = .slice p l.length cap ∧ (l.length ≠ 0 → p = some ⟨b, o, none⟩) ∧ ∀ k, k < l.length → b < w.heap.size ∧ w.cell? ⟨b, o + k, none⟩ = some (V k) ∧ PRep w Z (lstC 1 (strs (l.getD k []))) (V k) := by
 unfold lstC at hv
 by_cases h0 : lls l = []
 · have hl : l = [] := by simpa [lls] using h0
   subst hl
   have h' : PRep w Z (.list 0 none []) v := hv
   generalize hc : C.list 0 none [] = c at h'
   have fin : ∀ k : Nat, k < ([] : List (List Txt)).length → 0 < w.heap.size ∧ w.cell? ⟨0, 0 + k, none⟩ = some (Value.bool true) ∧ PRep w Z (lstC 1 (strs (([] : List (List Txt)).getD k []))) (Value.bool true) := fun k hk => absurd hk (by simp)
   cases h' with
   | nil => exact ⟨none, 0, 0, 0, fun _ => .bool true, rfl, fun h => absurd rfl h, fin⟩
   | emp _ _ a => exact ⟨some a, 0, 0, 0, fun _ => .bool true, rfl, fun h => absurd rfl h, fin⟩
   | list b o cap sz nl rws val =>
     injection hc with _ _ hr
     subst hr
     exact ⟨some ⟨b, o, none⟩, cap, 0, 0, fun _ => .bool true, rfl, fun h => absurd rfl h, fin⟩
   | _ => cases hc
 · have e : (if (lls l).isEmpty = true then 0 else 1) = 1 := by
     cases hh : lls l with
     | nil => exact absurd hh h0
     | cons a r => rfl
   rw [e] at hv
   generalize hc : C.list 1 none (lls l) = c at hv
   cases hv with
   | nil => injection hc with _ _ hr; exact absurd hr h0
   | emp => injection hc with _ _ hr; exact absurd hr h0
   | list b o cap sz nl rws val h1 h2 h3 h4 h5 h6 h7 =>
     injection hc with hs _ hr
     subst hs hr
     refine ⟨some ⟨b, o, none⟩, cap, b, o, fun k => val k 0, by rw [yA], fun _ => rfl, fun k hk => ?_⟩
     have hr : (lls l)[k]? = some [lstC 1 (strs (l.getD k []))] := by
       simp [lls, uF, hk, List.getD]
     refine ⟨hz _ (h4 h0), ?_, h7 k 0 _ _ hr rfl⟩
     have := h6 k 0 _ _ hr rfl
     simpa using this
   | _ => cases hc
theorem zie (l : List (List Txt)) (s : Txt) : ∀ k, k ≤ l.length → uV (fun i => l.getD i []) k s = cnt (l.take k) s
 | 0, _ => rfl
 | k + 1, h => by
   have hk : k < l.length := by omega
   rw [List.take_succ_eq_append_getElem hk, zmZ, j8, ← zie l s k (by omega)]
   simp [uV, List.getD, hk, cnt]
theorem zif {l : List (List Txt)} (h : y0 l = true) : l.length ≤ 3 ∧ ∀ x ∈ l, x.length ≤ 500 := by
 unfold y0 at h
 simp only [Bool.and_eq_true, decide_eq_true_eq, Bool.not_eq_true', List.any_eq_false] at h
 refine ⟨by omega, fun x hx => ?_⟩
 have := h.2 x hx
 simp [xQ] at this
 omega
theorem n8 {w : World} {Z : Bk → Prop} {c : C} {v : Value} (hv : PRep w Z c v) : uW w Z [.k (.c c)] [v] := by
 refine ⟨rfl, fun j x u hx hu => ?_⟩
 cases j with
 | zero => simp at hx hu; subst hx hu; exact ⟨rfl, hv.oneCell, hv⟩
 | succ j => simp at hx
theorem zig (l : List (List Txt)) (hw : ∀ x ∈ l, ∀ s ∈ x, s.length ≤ maxLen) (hR : y0 l = true) {w : World} {Z : Bk → Prop} {v : Value} (hG : yP (base w)) (hz : ∀ b, Z b → b.2 < w.heap.size) (hv : PRep w Z (lstC 1 (lls l)) v) :
   Calls Tryz.prog 21 #[v] w fun e w' => ∃ vo, e = .returned vo ∧ w'.ownsRow w.heap.size 9 1 vo (xF l).length ((xF l).map encStr) ∧ Below w.heap.size w w' := by
 have c48 := Spec.calls_bool (v48 l) hG hz (n8 hv)
 rw [hR] at c48
 obtain ⟨h3, h5⟩ := zif hR
 obtain ⟨p, cap, b, o, V, rfl, hp, hV⟩ := iK hz hv
 have hm : ∀ k, k < l.length → l.getD k [] ∈ l := fun k hk => by simp [List.getD, hk]
 refine (znA p b o l.length cap (fun k => l.getD k []) V w h3 c48 hp ⟨fun k hk w' hb => ?_, fun k hk w' hb => ?_, fun k hk => h5 _ (hm k hk), fun k hk => hw _ (hm k hk)⟩).mono ?_
 · rw [hb.cell (p := ⟨b, o + k, none⟩) (hV k hk).1]; exact (hV k hk).2.1
 · have hl := h5 _ (hm k hk)
   exact znt (l.getD k []) (by omega) (V k) w' Z (PRep.mono (fun bb hbb => hb.block _ (hz _ hbb)) (fun _ h => h) (hV k hk).2.2)
 · rintro e w' ⟨bm, D, m, out, vo, w3, A, rfl, ho, hg⟩
   have hbel : Below w.heap.size w w' := A.bel.grown hg A.bel.size (fun j hj => by have := (A.row.lt j hj).1; have := A.hb; omega)
   have hsl : (srt out).length = out.length := List.length_mergeSort _
   have hag : srt out = xF l := zhR (zm0 A.nod) (fun s => by
     rw [zm1, A.mem]
     have := zie l s l.length (Nat.le_refl _)
     rw [List.take_length] at this
     simp only [xH, this]
     simp)
   have ho2 := ho.mono (base' := w.heap.size) (by have := A.hb; omega)
   rw [← hsl, hag] at ho2
   exact ⟨vo, rfl, ho2, hbel⟩
theorem znB (l : List Txt) : xU (strs l) = l.map encStr := by rw [cells_strs, List.map_map]; rfl
theorem iL {w w' : World} {vo : Value} {ag : List Txt} (hG : yP (base w)) (Z : Bk → Prop) (ho : w'.ownsRow w.heap.size 9 1 vo ag.length (ag.map encStr)) (hb : Below w.heap.size w w') : uH (base w) Z (.k (.newl 9 1 none (strs ag))) vo w' :=
 pC hG (wU hb) (nV (n := ag.length) (plain_strs _) (by rw [znB]; exact ho) (by rw [strs_len]))
theorem v21 (l : List (List Txt)) (hw : ∀ x ∈ l, ∀ s ∈ x, s.length ≤ maxLen) (hR : y0 l = true) :
   Spec Tryz.prog 21 [lst 1 (lls l)] (fun r => r = .k (.newl 9 1 none (strs (xF l)))) := by
 refine ⟨vL (by kernel_rfl), fun w Z vs hG hz ha => ?_⟩
 obtain ⟨vl⟩ := vs
 match vl, ha with
 | [], ha => exact absurd ha.1 (by simp)
 | _ :: _ :: _, ha => exact absurd ha.1 (by simp)
 | [v], ha =>
   refine (zig l hw hR hG hz (ha.2 0 _ v rfl rfl).2.2).mono ?_
   rintro e w' ⟨vo, rfl, ho, hb⟩
   exact ⟨_, _, rfl, rfl, fun τ => rfl, iL hG _ ho hb⟩
end Go.Abs
set_option maxRecDepth 100000
namespace Go.Proofs
open Go.Shelf Go.RowKit
def Tryz.laysHas_ren : Go.Shelf.Ren :=
 {
   f := fun x =>
     match x with
     | 110 => 36
     | 109 => 67
     | n => n,
   t := fun x =>
     match x with
     | 31 => 22
     | 9 => 9
     | 4 => 4
     | 3 => 3
     | 0 => 0
     | n => n,
   g := fun n => n }
theorem Tryz.laysHas : Lays.n110 Tryz.prog Tryz.laysHas_ren :=
 { mixed := by kernel_rfl, f109 := Eq.trans Tryz.func67 (congrArg some (Eq.refl (Body.n109 Tryz.laysHas_ren))),
   f110 := Eq.trans Tryz.func36 (congrArg some (Eq.refl (Body.n110 Tryz.laysHas_ren))), t0 := Tryz.underlying0,
   a0 := Tryz.isAgg0, z0 := Tryz.sizeOf0, v0 := Tryz.zeroValue0, t3 := Tryz.underlying3, a3 := Tryz.isAgg3,
   z3 := Tryz.sizeOf3, v3 := Tryz.zeroValue3, t4 := Tryz.underlying4, a4 := Tryz.isAgg4, z4 := Tryz.sizeOf4,
   v4 := Tryz.zeroValue4, t9 := Tryz.underlying9, a9 := Tryz.isAgg9, z9 := Tryz.sizeOf9, v9 := Tryz.zeroValue9,
   t31 := Tryz.underlying22, a31 := Tryz.isAgg22, z31 := Tryz.sizeOf22, v31 := Tryz.zeroValue22 }
end Go.Proofs
set_option maxRecDepth 100000
set_option maxHeartbeats 2000000
namespace Go.Proofs
open Go.Shelf Go.RowKit Go.Lib Go.Sort Go.Rg Go.Wire
theorem sU {p : Prop} (h : p) : Aside p := h
theorem znC (l : List Txt) (hl : l.length ≤ 4000000) (v : Value) (w : World) (Z : Go.Abs.Bk → Prop) (hv : Go.Abs.PRep w Z (Go.Abs.lstC 1 (Go.Abs.strs l)) v) (x : Txt) :
   Calls Tryz.prog 36 #[v, encStr x] w fun e w' => e = .returned (.bool (decide (x ∈ l))) ∧ w' = w := by
 obtain ⟨p, k, rfl, q, m⟩ := (Go.Abs.plain_strs l).slice hv
 by_cases h0 : l = []
 · subst h0
   refine (Any.slices_Contains_string_empty Tryz.laysHas p k ⟨x.toArray⟩ w).mono ?_
   rintro e w' ⟨rfl, rfl⟩
   exact ⟨by simp, rfl⟩
 · have hpos : 0 < (Go.Abs.strs l).length := by rw [Go.Abs.strs_len]; exact List.length_pos_iff.2 h0
   obtain ⟨b, o, rfl, g⟩ := q hpos
   refine (Any.slices_Contains_string Tryz.laysHas b o (Go.Abs.strs l).length k (l.map fun s => (⟨s.toArray⟩ : ByteArray)) ⟨x.toArray⟩ w (by rw [Go.Abs.strs_len, List.length_map]; exact Nat.le_refl _) (by rw [Go.Abs.strs_len]; omega) ?_).mono ?_
   · intro j hj
     refine g j _ ?_
     rw [Go.Abs.cells_strs, List.getElem?_map, List.getD_eq_getElem?_getD, List.getElem?_eq_getElem hj]; rfl
   · rintro e w' ⟨rfl, rfl⟩
     rw [List.take_of_length_le (by rw [Go.Abs.strs_len, List.length_map]; exact Nat.le_refl _)]
     refine ⟨?_, rfl⟩
     have e1 : containsS (l.map fun s => (⟨s.toArray⟩ : ByteArray)) ⟨x.toArray⟩ = decide (x ∈ l) := by
       rw [Bool.eq_iff_iff, containsS_iff, decide_eq_true_eq, List.mem_map]
       constructor
       · rintro ⟨a, ha, hax⟩
         have : a = x := by injection hax with h1; injection h1
         exact this ▸ ha
       · exact fun h => ⟨x, h, rfl⟩
     rw [e1]
theorem znD (x : Txt) (b2 b3 b o n c i : Nat) (v : Value) (t : Bool) (W : World) (h2 : W.cell? ⟨b2, 0, none⟩ = some (.slice (some ⟨b, o, none⟩) n c)) (h3 : W.cell? ⟨b3, 0, none⟩ = some (.int .i64 i)) (hi : i < n)
   (hv : W.cell? ⟨b, o + i, none⟩ = some v) (c36 : Calls Tryz.prog 36 #[v, encStr x] W fun e w' => e = .returned (.bool t) ∧ w' = W) :
   FnGives Tryz.prog 53 #[.pointer (some ⟨b2, 0, none⟩), .pointer (some ⟨b3, 0, none⟩)] #[encStr x] (.bool t) W := by
 have hi' : (i : Int) < n := by omega
 show Calls Tryz.prog 53 #[encStr x, .pointer (some ⟨b2, 0, none⟩), .pointer (some ⟨b3, 0, none⟩)] W _
 go_enter Tryz.func53, Tryz.ntmps53
 go_wp2_with (go_at_call 36; refine c36.mono ?_; rintro e w1 ⟨rfl, rfl⟩)
 go_ret
 exact ⟨rfl, 0, rfl⟩
theorem znE : OneCell encStr := fun _ => rfl
theorem znF (B : Nat) (vo : Value) (ag : List Txt) (q : Txt → Bool) (lb : Array Value) (w : World) (hl : ag.length ≤ 4000000) (ho : w.ownsRow B 9 1 vo ag.length (ag.map encStr))
   (hp : ∀ W x, (∀ k, k < B → W.heap[k]? = w.heap[k]?) → FnGives Tryz.prog 53 lb #[encStr x] (.bool (q x)) W) :
   Calls Tryz.prog 52 #[vo, .func (.func 53) #[] lb] w fun e w' => ∃ v', e = .returned v' ∧ w'.ownsRow B 9 1 v' (ag.filter fun x => !q x).length ((ag.filter fun x => !q x).map encStr) ∧ w.grownBy w' vo.ownBlock := by
 have hle := List.length_filter_le (fun x => !q x) ag
 rcases ho.2 with ⟨hv, h0⟩ | ⟨g, cap, cur, hv, hbase, hb, h1, h2, h3, h4⟩
 · subst hv
   have : ag = [] := List.eq_nil_of_length_eq_zero h0
   subst this
   have c77 : Calls Tryz.prog 77 #[.slice none 0 0, .func (.func 53) #[] lb] w fun e w' => e = .returned (.int .i64 (-1)) ∧ w' = w := AnyE.slices_IndexFunc_empty { Tryz.laysDel with } none 0 _ w
   go_enter Tryz.func52, Tryz.ntmps52
   go_wp2_with (go_at_call 77; refine c77.mono ?_; rintro e w1 ⟨rfl, rfl⟩)
   go_ret
   exact ⟨_, rfl, ho, World.grownBy.refl _ _⟩
 · subst hv
   have hlt : g < w.heap.size := (Array.getElem?_eq_some_iff.1 hb).1
   refine (AnyE.slices_DeleteFunc (α := Txt) Tryz.laysDel encStr znE q 53 lb (enters_of Tryz.func53 (by kernel_rfl) rfl) [] (fun _ => by kernel_rfl) g 0 cap ag.toArray w
     (fun W x hbW => hp W x fun k hk => hbW.block k (by omega))
     (fun n os dk x _ => hp _ x fun k hk => (grownBy_sorted (os := os) dk).block k (by omega) (fun e => by cases e; omega))
     (holds_of_block hb (by simpa using h4)) (by simp; omega) (by simpa using h1)).mono ?_
   rintro e w' ⟨rfl, n, rfl⟩
   have hc := ownsRow_putRow (q := n) (k := (ag.filter fun x => !q x).length) (ys := (ag.filter fun x => !q x) ++ List.replicate (ag.length - (ag.filter fun x => !q x).length) []) ho (by simp; omega) hle
   rw [List.take_left] at hc
   have hg := grownBy_sorted (w := w) (g := g) (n := n) (os := #[]) ((ag.filter fun x => !q x) ++ List.replicate (ag.length - (ag.filter fun x => !q x).length) []).toArray
   rw [grow_empty] at hg
   exact ⟨_, rfl, hc, hg⟩
theorem znG (b o n c i : Nat) (hi : i < n) (V : Value) (li ag : List Txt) (hl : ag.length ≤ 4000000) (w : World)
   (C : Aside ((∀ w', Below w.heap.size w w' → Calls Tryz.prog 48 #[.slice (some ⟨b, o, none⟩) n c] w' fun e w2 => e = .returned (.bool true) ∧ Below w'.heap.size w' w2) ∧
     (∀ w', Below w.heap.size w w' → Calls Tryz.prog 21 #[.slice (some ⟨b, o, none⟩) n c] w' fun e w2 => ∃ vo, e = .returned vo ∧ w2.ownsRow w'.heap.size 9 1 vo ag.length (ag.map encStr) ∧ Below w'.heap.size w' w2) ∧
     b < w.heap.size ∧ w.cell? ⟨b, o + i, none⟩ = some V ∧
     ∀ (W : World) x, (∀ k, k < w.heap.size → W.heap[k]? = w.heap[k]?) → Calls Tryz.prog 36 #[V, encStr x] W fun e w' => e = .returned (.bool (decide (x ∈ li))) ∧ w' = W)) :
   Calls Tryz.prog 23 #[.slice (some ⟨b, o, none⟩) n c, .int .i64 i] w fun e w' => ∃ v', e = .returned v' ∧ w'.ownsRow w.heap.size 9 1 v' (ag.filter fun x => !decide (x ∈ li)).length ((ag.filter fun x => !decide (x ∈ li)).map encStr) ∧ Below w.heap.size w w' := by
 have hi' : (i : Int) < n := by omega
 have hb0 : Below w.heap.size w ((w.alloc (.cells #[.slice (some ⟨b, o, none⟩) n c] 26)).alloc (.cells #[.int .i64 i] 3)) := ((Below.refl _ _).alloc (Nat.le_refl _) _).alloc (by simp) _
 have c48 := C.out.1 _ hb0
 have hsz : (w.alloc (.cells #[.slice (some ⟨b, o, none⟩) n c] 26)).heap.size = w.heap.size + 1 := Array.size_push _
 have hsz2 : ((w.alloc (.cells #[.slice (some ⟨b, o, none⟩) n c] 26)).alloc (.cells #[.int .i64 i] 3)).heap.size = w.heap.size + 2 := (Array.size_push _).trans (by rw [hsz])
 have g2 : ((w.alloc (.cells #[.slice (some ⟨b, o, none⟩) n c] 26)).alloc (.cells #[.int .i64 i] 3)).cell? ⟨w.heap.size, 0, none⟩ = some (.slice (some ⟨b, o, none⟩) n c) :=
   by rw [Lib.cell_of_heap ((Below.heap_alloc (w.alloc (.cells #[.slice (some ⟨b, o, none⟩) n c] 26)) (.cells #[.int .i64 i] 3) w.heap.size (by rw [hsz]; omega)).trans (heap_alloc_new w (.cells #[.slice (some ⟨b, o, none⟩) n c] 26)))]; rfl
 have g3 : ((w.alloc (.cells #[.slice (some ⟨b, o, none⟩) n c] 26)).alloc (.cells #[.int .i64 i] 3)).cell? ⟨w.heap.size + 1, 0, none⟩ = some (.int .i64 i) := by
   have h := heap_alloc_new (w.alloc (.cells #[.slice (some ⟨b, o, none⟩) n c] 26)) (.cells #[.int .i64 i] 3)
   rw [hsz] at h
   rw [Lib.cell_of_heap h]; rfl
 have G := sU (And.intro hb0 (And.intro g2 (And.intro g3 hsz2)))
 clear hb0 g2 g3 hsz hsz2
 go_enter Tryz.func23, Tryz.ntmps23
 go_wp2_with (first
   | (go_at_call 52; refine c52.mono ?_; rintro e w3 ⟨v3, rfl, ho3, hg3⟩; have K3 := sU (And.intro ho3 hg3); clear ho3 hg3 c52)
   | (go_at_call 21; refine c21.mono ?_; rintro e w2 ⟨vo, rfl, ho, hb2⟩
      have c52 := znF w1.heap.size vo ag (fun x => decide (x ∈ li)) #[.pointer (some ⟨w.heap.size, 0, none⟩), .pointer (some ⟨w.heap.size + 1, 0, none⟩)] w2 hl ho (fun W x hW => by
        have hW1 : ∀ k, k < w1.heap.size → W.heap[k]? = w1.heap[k]? := fun k hk => (hW k hk).trans (hb2.block k hk)
        have hs := K1.out.2.2.2
        refine znD x _ _ b o n c i V _ W ((World.cell?_of_block (hW1 _ (by show w.heap.size < _; omega))).trans K1.out.2.1) ((World.cell?_of_block (hW1 _ (by show w.heap.size + 1 < _; omega))).trans K1.out.2.2.1) hi ?_ ?_
        · have hbb := C.out.2.2.1
          rw [World.cell?_of_block (w := w) (w' := W) (a := ⟨b, o + i, none⟩) ((hW1 b (by omega)).trans (K1.out.1.block b hbb))]
          exact C.out.2.2.2.1
        · exact C.out.2.2.2.2 W x fun k hk => (hW1 k (by omega)).trans (K1.out.1.block k hk))
      have K2 := sU (And.intro ho hb2)
      clear c21 ho hb2)
   | (go_at_call 48; go_loud (refine c48.mono ?_; rintro e w1 ⟨rfl, hb1⟩; have k1 : Below w.heap.size w w1 := G.out.1.trans (hb1.mono (by rw [G.out.2.2.2]; omega)); have k2 : w1.cell? ⟨w.heap.size, 0, none⟩ = some (.slice (some ⟨b, o, none⟩) n c) := (hb1.cell (p := ⟨w.heap.size, 0, none⟩) (by rw [G.out.2.2.2]; show w.heap.size < _; omega)).trans G.out.2.1; have k3 : w1.cell? ⟨w.heap.size + 1, 0, none⟩ = some (.int .i64 i) := (hb1.cell (p := ⟨w.heap.size + 1, 0, none⟩) (by show w.heap.size + 1 < _; simp)).trans G.out.2.2.1; have c21 := C.out.2.1 w1 k1; have K1 := sU (And.intro k1 (And.intro k2 (And.intro k3 (show w.heap.size + 2 ≤ w1.heap.size from Nat.le_trans (Nat.le_of_eq G.out.2.2.2.symm) hb1.size)))); clear k1 hb1 c48)))
 go_ret
 have ho2 := K2.out.1
 have hb2 := K2.out.2
 have hbe := K1.out.1.trans (hb2.mono (by have := K1.out.2.2.2; omega))
 exact ⟨v3, rfl, K3.out.1.mono (by have := K1.out.2.2.2; omega), hbe.grown K3.out.2 hbe.size (fun j hj => by have := (ho2.lt j hj).1; have := K1.out.2.2.2; omega)⟩
end Go.Proofs
set_option maxRecDepth 100000
set_option maxHeartbeats 4000000
namespace Go.Abs
open Go.Proofs Go.Wire Go.RowKit Go.Jr Go.Rg
theorem v23 (l : List (List Txt)) (hw : ∀ x ∈ l, ∀ s ∈ x, s.length ≤ maxLen) (hR : y0 l = true) (i : Nat) (hi : i < l.length) :
   Spec Tryz.prog 23 [lst 1 (lls l), .int .i64 i] (fun r => r = .k (.newl 9 1 none (strs (sT l i)))) := by
 refine ⟨vL (by kernel_rfl), fun w Z vs hG hz ha => ?_⟩
 obtain ⟨vl⟩ := vs
 match vl, ha with
 | [], ha => exact absurd ha.1 (by simp)
 | [_], ha => exact absurd ha.1 (by simp)
 | _ :: _ :: _ :: _, ha => exact absurd ha.1 (by simp)
 | [v, vi], ha =>
   have hv : PRep w Z (lstC 1 (lls l)) v := (ha.2 0 _ v rfl rfl).2.2
   have hvi : vi = .int .i64 i := by
     have h : PRep w Z (.int .i64 i) vi := (ha.2 1 _ vi rfl rfl).2.2
     cases h; rfl
   subst hvi
   have hlen := zib l
   have hag : agreeX l = xF l := by unfold agreeX; rw [if_pos hR]
   obtain ⟨h3, h5⟩ := zif hR
   have hv0 := hv
   obtain ⟨p, cap, b, o, V, rfl, hp, hV⟩ := iK hz hv
   obtain rfl := hp (by omega)
   have hsame : ∀ w', Below w.heap.size w w' → PRep w' Z (lstC 1 (lls l)) (.slice (some ⟨b, o, none⟩) l.length cap) := fun w' hb => PRep.mono (fun bb hbb => hb.block _ (hz _ hbb)) (fun _ h => h) hv0
   have hz' : ∀ w', Below w.heap.size w w' → ∀ b, Z b → b.2 < w'.heap.size := fun w' hb bb hbb => Nat.lt_of_lt_of_le (hz bb hbb) hb.size
   have hG' : ∀ w', Below w.heap.size w w' → yP (base w') := fun w' hb => hG.later (wU hb)
   have hm : l.getD i [] ∈ l := by simp [List.getD, hi]
   refine (znG b o l.length cap i hi (V i) (l.getD i []) (xF l) (by rw [← hag]; exact hlen) w ⟨fun w' hb => ?_, fun w' hb => ?_, (hV i hi).1, (hV i hi).2.1, fun W x hW => ?_⟩).mono ?_
   · have := Spec.calls_bool (v48 l) (hG' w' hb) (hz' w' hb) (n8 (hsame w' hb))
     rw [hR] at this
     exact this
   · exact zig l hw hR (hG' w' hb) (hz' w' hb) (hsame w' hb)
   · exact znC (l.getD i []) (by have := h5 _ hm; omega) (V i) W Z (PRep.mono (fun bb hbb => hW _ (hz _ hbb)) (fun _ h => h) (hV i hi).2.2) x
   · rintro e w' ⟨vo, rfl, ho, hb⟩
     have e1 : ((xF l).filter fun x => !decide (x ∈ l.getD i [])) = sT l i := by
       unfold sT
       rw [hag]
       congr 1
       funext x
       simp
     rw [e1] at ho
     exact ⟨_, _, rfl, rfl, fun τ => rfl, iL hG _ ho hb⟩
theorem take_new {d : Disk} {l : List Txt} {c : Nat} (h : Jr.Inv d l c) {s : Txt} (hs : s ∉ l) : takeR d s = appendJ d s := by
 unfold takeR; rw [h.read]; simp [hs]
theorem take_old {d : Disk} {l : List Txt} {c : Nat} (h : Jr.Inv d l c) {s : Txt} (hs : s ∈ l) : takeR d s = (d, 5) := by
 unfold takeR; rw [h.read]; simp [hs]
theorem zih {d d' : Disk} {s : Txt} {l : List Txt} {n : Nat} (h : takeR d s = (d', 0)) : xD d (s :: l) n = xD d' l (n + 1) := by rw [xD, h]; simp
theorem znH {d d' : Disk} {s : Txt} {l : List Txt} {n : Nat} (h : takeR d s = (d', 5)) : xD d (s :: l) n = xD d l n := by rw [xD, h]; simp
theorem l8 : Spec Tryz.prog 8 [] (fun r => r = .bool true) := by
 refine Spec.of_awlS hf8 okf8 (by simp) fun S hS => ?_
 have c11 := v11 5
 obtain ⟨a, ha, ia, sa, la, _⟩ := zmL (n := 5) (by decide) (by decide)
 rw [show newR 5 = (a, 0) by rw [← ha]; rfl] at c11
 obtain ⟨b, hb, ib, sb, lb, _⟩ := nR ia (s := [97]) (by decide) (by decide) (by rw [sa]; exact Nat.le_of_ble_eq_true (by kernel_rfl)) (.inl la)
 have lb := lb la
 obtain ⟨c, hc, ic, sc, lc, _⟩ := nR ib (s := [98]) (by decide) (by decide) (by rw [sb, sa]; exact Nat.le_of_ble_eq_true (by kernel_rfl)) (.inl lb)
 have lc := lc lb
 obtain ⟨d, hd, id, sd, ld, _⟩ := nR ic (s := [99]) (by decide) (by decide) (by rw [sc, sb, sa]; exact Nat.le_of_ble_eq_true (by kernel_rfl)) (.inl lc)
 have ld := ld lc
 obtain ⟨e, he, ie, se, le, _⟩ := nR id (s := [100]) (by decide) (by decide) (by rw [sd, sc, sb, sa]; exact Nat.le_of_ble_eq_true (by kernel_rfl)) (.inl ld)
 have t1 := v14 _ ia.right [97] (by decide)
 rw [take_new ia (by decide), hb] at t1
 have t2 := v14 _ ib.right [98] (by decide)
 rw [take_new ib (by decide), hc] at t2
 have t3 := v14 _ ic.right [97] (by decide)
 rw [take_old ic (by decide)] at t3
 have r1 := v25 _ ic.right [[98], [99], [100]] (by decide) (by decide)
 rw [show xD c [[98], [99], [100]] 0 = ((e, 2), 0) by
   rw [znH (take_old ic (by decide)), zih ((take_new ic (by decide)).trans hd), zih ((take_new id (by decide)).trans he)]
   rfl] at r1
 have l1 := v18 _ ie.right
 rw [ie.read] at l1
 have l1 : Spec Tryz.prog 18 [dV e] (fun r => r = .tup [lst 1 (strs [[97], [98], [99], [100]]), .int .i64 0]) := l1
 have q1 := w26 [[97], [98], [99], [100]] [[97], [98], [99], [100]]
 rw [decide_eq_true rfl] at q1
 have m1 := b23 _ ib.right 1
 rw [show nN b 1 = (⟨b.secs, b.pend, 1, b.down⟩, 0) by rw [nN, if_neg (by simp [ib.up]), if_neg (by decide)]] at m1
 have ix := zm7 ib (k := 1) (by decide) (by decide)
 obtain ⟨zs, hz, iz, sz⟩ := zmK ix (s := [98]) (by decide) (by decide) (by show _ ≤ 16 * (b.secs.length - 2); rw [sb, sa]; exact Nat.le_of_ble_eq_true (by kernel_rfl)) (by show (0 : Int) ≤ 1; decide) (by show (1 : Int) ≤ ((yW ([] ++ [[97]]) [98]).length : Int); exact Int.ofNat_le.2 (Nat.le_of_ble_eq_true (by kernel_rfl)))
 have t4 := v14 _ ix.right [98] (by decide)
 rw [take_new ix (by decide), hz] at t4
 have u1 := v16 _ (zm6 iz.right)
 rw [show startD ⟨zs, [], -1, true⟩ = (⟨zs, [], -1, false⟩, 0) from rfl] at u1
 have l2 := v18 _ iz.right
 rw [iz.read] at l2
 have l2 : Spec Tryz.prog 18 [dV ⟨zs, [], -1, false⟩] (fun r => r = .tup [lst 1 (strs [[97]]), .int .i64 0]) := l2
 have q2 := w26 [[97]] [[97]]
 rw [decide_eq_true rfl] at q2
 have g1 := v21 [[[97], [98], [99]], [[98], [100]], [[99], [98], [97]]] (by decide) (by kernel_rfl)
 rw [show xF [[[97], [98], [99]], [[98], [100]], [[99], [98], [97]]] = [[97], [98], [99]] by kernel_rfl] at g1
 have g2 := v23 [[[97], [98], [99]], [[98], [100]], [[99], [98], [97]]] (by decide) (by kernel_rfl) 1 (by decide)
 rw [show sT [[[97], [98], [99]], [[98], [100]], [[99], [98], [97]]] 1 = [[97], [99]] by kernel_rfl] at g2
 have q3 := w26 [[97], [98], [99]] [[97], [98], [99]]
 rw [decide_eq_true rfl] at q3
 have q4 := w26 [[97], [99]] [[97], [99]]
 rw [decide_eq_true rfl] at q4
 simp only [zI, xC, dV, zD] at *
 simp only [zA, zB, Qs, uu f8.eq_1, vv f8r38.eq_1, uu f8b39.eq_1, vv f8r40.eq_1, uu f8b41.eq_1]
 refine zT c11 ?_
 simp only [zA, zB, Qs, if_true, List.append_nil, Nat.reduceAdd, Nat.reduceMul, Nat.reduceBEq, vv f8r36.eq_1, uu f8b37.eq_1]
 refine zT t1 ?_
 simp only [zA, zB, Qs, if_true, bne_iff_ne, ne_eq, List.append_nil, Nat.reduceAdd, Nat.reduceMul, Nat.reduceEqDiff, Nat.reduceBEq, vv f8r32.eq_1, uu f8b33.eq_1, vv f8r34.eq_1, uu f8b35.eq_1]
 refine zT t2 ?_
 simp only [zA, zB, Qs, if_true, List.append_nil, Nat.reduceAdd, Nat.reduceMul, Nat.reduceBEq, vv f8r30.eq_1, uu f8b31.eq_1]
 refine zT t3 ?_
 simp only [zA, zB, Qs, qS, if_true, forall_eq_or_imp, forall_eq, bne_iff_ne, ne_eq, List.append_nil, List.mem_cons, Nat.reduceAdd, Nat.reduceMul, Nat.reduceEqDiff, Nat.reduceLT, Nat.reduceBEq, List.not_mem_nil, vv f8r28.eq_1, uu f8b29.eq_1]
 refine zb9 43 (by simp [look, lookT]) r1 (by simp [zH, yI, lookO, V.isPure]) (by simp [zH, yI, lookO, V.norm, z6, lst]; rfl) (by simp [V.toks, Abs.K.toks]) (by simp [lookO, vH]) rfl ?_
 simp only [zA, zB, Qs, if_true, if_false, List.append_nil, Nat.reduceAdd, Nat.reduceMul, Nat.reduceEqDiff, Nat.reduceBEq, nD, zgG, qT, sK, sL, qV, vv f8r26.eq_1, uu f8b27.eq_1]
 refine zT l1 ?_
 simp only [zA, zB, Qs, kN, qS, if_true, if_false, forall_eq_or_imp, forall_eq, bne_iff_ne, ne_eq, List.append_nil, List.mem_cons, Nat.reduceAdd, Nat.reduceMul, Nat.reduceEqDiff, Nat.reduceLT, Nat.reduceBEq, Int.reduceBNe, List.not_mem_nil, vv f8r23.eq_1, uu f8b24.eq_1, uu f8b25.eq_1]
 refine zJ q1 ?_ (ha := by simp [zH, yI, lookO, V.norm, z6, lst]; rfl)
 simp only [zA, zB, Qs, if_true, if_false, Nat.reduceAdd, Nat.reduceBEq, vv f8r18.eq_1, uu f8b19.eq_1, uu f8b22.eq_1]
 refine zT m1 ?_
 simp only [zA, zB, Qs, if_true, bne_iff_ne, ne_eq, List.append_nil, Nat.reduceAdd, Nat.reduceMul, Nat.reduceEqDiff, Nat.reduceBEq, vv f8r16.eq_1, uu f8b17.eq_1]
 refine zT t4 ?_
 simp only [zA, zB, Qs, if_true, bne_iff_ne, ne_eq, Int.reduceNeg, List.append_nil, Nat.reduceAdd, Nat.reduceMul, Nat.reduceEqDiff, Nat.reduceBEq, vv f8r14.eq_1, uu f8b15.eq_1]
 refine zT u1 ?_
 simp only [zA, zB, Qs, if_true, bne_iff_ne, ne_eq, Int.reduceNeg, List.append_nil, Nat.reduceAdd, Nat.reduceMul, Nat.reduceEqDiff, Nat.reduceBEq, vv f8r12.eq_1, uu f8b13.eq_1]
 refine zT l2 ?_
 simp only [zA, zB, Qs, kN, if_true, if_false, forall_eq, bne_iff_ne, ne_eq, Int.reduceNeg, List.append_nil, List.mem_cons, Nat.reduceAdd, Nat.reduceMul, Nat.reduceEqDiff, Nat.reduceLT, Nat.reduceBEq, Int.reduceBNe, List.not_mem_nil, vv f8r9.eq_1, uu f8b10.eq_1, uu f8b11.eq_1]
 refine zJ q2 ?_ (ha := by simp [zH, yI, lookO, V.norm, z6, lst]; rfl)
 simp only [zA, zB, awl.eq_15, qL.eq_1, qL.eq_2, Qs, qS, if_true, if_false, forall_eq_or_imp, forall_eq, bne_iff_ne, ne_eq, Int.reduceNeg, List.mem_cons, Nat.reduceEqDiff, Nat.reduceLT, Nat.reduceBEq, Nat.succ_ne_self, List.not_mem_nil, nD, zkY, zgG, qT, kZ, sK, qU, sL, qV, vv f8r1.eq_1, uu f8b2.eq_1, vv f8r3.eq_1, vv f8r4.eq_1, uu f8b5.eq_1, uu f8b8.eq_1]
 refine tG g1 ?_ (ha := by simp [zH, V.norm, lst, lstC, lls, uF, strs, x7, C.norm, C.normRows, C.normRow])
 simp only [zA, zB, Qs, qS, forall_eq_or_imp, forall_eq, bne_iff_ne, ne_eq, Int.reduceNeg, List.mem_cons, Nat.reduceEqDiff, Nat.reduceLT, Nat.reduceBEq, List.not_mem_nil]
 refine zJ q3 ?_ (ha := by simp [zH, yI, lookO, V.norm, z6, lst]; rfl)
 simp only [zA, zB, Qs, Int.reduceNeg, Nat.reduceBEq]
 refine tG g2 ?_ (ha := by simp [zH, V.norm, lst, lstC, lls, uF, strs, x7, C.norm, C.normRows, C.normRow])
 simp only [zA, zB, Qs, kN, qS, forall_eq_or_imp, forall_eq, bne_iff_ne, ne_eq, Int.reduceNeg, List.mem_cons, Nat.reduceEqDiff, Nat.reduceLT, Nat.reduceBEq, List.not_mem_nil]
 refine zJ q4 ?_ (ha := by simp [zH, yI, lookO, V.norm, z6, lst]; rfl)
 simp only [zA, zB, Qs, zkV, qP, kY, if_true, if_false, Int.reduceNeg, List.nodup_nil, Nat.reduceBEq]
 exact hS
end Go.Abs
set_option maxRecDepth 100000
namespace Go.Abs
theorem znI {m : Int} (h : (Lit.int .i64 m).wf = true) : -9223372036854775808 ≤ m ∧ m ≤ 9223372036854775807 := by
 have := (Lit.wf_int_iff _ _).1 h
 simpa [IntKind.min, IntKind.max, IntKind.signed, IntKind.bits] using this
section
variable {P : Program}
theorem znJ {n : Nat} {t : TypeId} {r : List C} (ht : P.underlying t = some (.int .i64)) (hr : yE P n t r) : ∃ m : Int, xX P t r = .int .i64 m ∧ (-9223372036854775808 ≤ m ∧ m ≤ 9223372036854775807) := by
 obtain ⟨m, rfl, h⟩ := jF ht hr
 exact ⟨m, by simp only [xX, ht], znI h⟩
theorem znK {n : Nat} {t : TypeId} {r : List C} (ht : P.underlying t = some .string) (hr : yE P n t r) : ∃ s : List UInt8, xX P t r = .str s ∧ s.length ≤ 9223372036854775807 := by
 obtain ⟨s, rfl, h⟩ := jG ht hr
 exact ⟨s, by simp only [xX, ht], h⟩
end
theorem znL {H : Type} {enc : TypeId × Value → H} {P : Program} {w : World} {base : Nat} {sp : Nat → Bool} {held : Bool} {fuel : Nat} {t : TypeId} {ms : Array (String × TypeId)} {cs : List Value} {x : DataW H × List MemPlace}
   (ht : P.underlying t = some (.interface ms)) (h : DataW.trod enc P w base sp held fuel t cs = some x) : ∃ v, cs = [v] ∧ (v = .nilIface ∨ ∃ t p, v = .iface t p) := by
 cases fuel with
 | zero => simp [DataW.trod] at h
 | succ n =>
   unfold DataW.trod at h
   rw [ht] at h
   split at h <;> simp_all
end Go.Abs
namespace Go.Abs
theorem zii {P : Program} {n : Nat} {t e : TypeId} {r : List C} (ht : P.underlying t = some (.slice e)) (he : P.underlying e = some .string) (hc : P.cellsOf e = 1) (hr : yE P n t r) : ∃ l : List Go.Wire.Txt, r = uF l := by
 obtain ⟨m, rows, rfl, rfl, _, h⟩ := jH ht hr
 obtain ⟨l, rfl⟩ := nG x7 (fun r hr => by obtain ⟨x, rfl, _⟩ := jG he hr; exact ⟨x, rfl⟩) rows h
 exact ⟨l, by simp only [uF, hc]; rfl⟩
theorem znM {P : Program} {n : Nat} {t e e2 : TypeId} {r : List C} (ht : P.underlying t = some (.slice e)) (he : P.underlying e = some (.slice e2)) (he2 : P.underlying e2 = some .string) (hc : P.cellsOf e = 1) (hc2 : P.cellsOf e2 = 1) (hr : yE P n t r) : ∃ l : List (List Go.Wire.Txt), xX P t r = lst 1 (lls l) := by
 obtain ⟨m, rows, rfl, rfl, _, h⟩ := jH ht hr
 obtain ⟨l, rfl⟩ := nG uF (fun r hr => zii he he2 hc2 hr) rows h
 exact ⟨l, by simp only [xX, ht, hc]; rfl⟩
theorem znN {P : Program} {n : Nat} {t tI tS : TypeId} {fs : Array Field} {r : List C} (ht : P.underlying t = some (.struct fs)) (hf : fs.toList.map (·.type) = [tI, tS]) (hi : P.underlying tI = some (.int .i64)) (hs : P.underlying tS = some .string) (hr : yE P n t r) : ∃ x : Go.Jr.Wr, r = tL x := by
 obtain ⟨m, rs, _, rfl, h⟩ := zha ht hr
 rw [hf] at h
 obtain ⟨x, y, rfl, hx, hy⟩ := zlU h
 obtain ⟨a, rfl, _⟩ := jF hi hx
 obtain ⟨b, rfl, _⟩ := jG hs hy
 exact ⟨⟨a, b⟩, rfl⟩
theorem znO {P : Program} {n : Nat} {t tLS tLW tW tI tS tB : TypeId} {fs gs : Array Field} {r : List C} (ht : P.underlying t = some (.struct fs)) (hf : fs.toList.map (·.type) = [tLS, tLW, tI, tB]) (hls : P.underlying tLS = some (.slice tS)) (hlw : P.underlying tLW = some (.slice tW))
   (hw : P.underlying tW = some (.struct gs)) (hg : gs.toList.map (·.type) = [tI, tS]) (hi : P.underlying tI = some (.int .i64)) (hs : P.underlying tS = some .string) (hb : P.underlying tB = some .bool) (hc1 : P.cellsOf tS = 1) (hc2 : P.cellsOf tW = 2) (hr : yE P n t r) : ∃ d : Go.Jr.Disk, xX P t r = dV d := by
 obtain ⟨m, rs, _, rfl, h⟩ := zha ht hr
 rw [hf] at h
 obtain ⟨x, y, z, u, rfl, hx, hy, hz, hu⟩ := zlV h
 obtain ⟨l, rfl⟩ := zii hls hs hc1 hx
 obtain ⟨m2, rows, _, rfl, _, hp⟩ := jH hlw hy
 obtain ⟨p, rfl⟩ := nG tL (fun r hr => znN hw hg hi hs hr) rows hp
 obtain ⟨a, rfl, _⟩ := jF hi hz
 obtain ⟨b, rfl⟩ := zlT hb hu
 exact ⟨⟨l, p, a, b⟩, by simp only [xX, ht, hc2]; rfl⟩
end Go.Abs
namespace Go.Proofs.YtnendldalcpgeaaGreatDoor
open Go.Abs Go.RowKit Go.ChangeShapes Go.WideShapes Go.ChangeAt Go.WideMaps Go.WideElems Go.Wire
theorem own : ownKnob Tryz.prog.godebug = none := by kernel_rfl
theorem kids : Kids Tryz.prog (· < Tryz.prog.types.size) := kids_rows (by kernel_rfl) (by kernel_rfl)
theorem full : ∀ t e, t < Tryz.prog.types.size → Tryz.prog.underlying t = some (.slice e) → 0 < Tryz.prog.cellsOf e := slices_full_of Tryz.prog (by kernel_rfl)
def n9 : List TypeId := [3, 4, 9, 22, 23, 25, 26, 52]
theorem znP : sM Tryz.prog n9 = true := by kernel_rfl
theorem znQ : ∀ t ∈ n9, t < Tryz.prog.types.size := by
 have : n9.all (fun t => decide (t < Tryz.prog.types.size)) = true := by kernel_rfl
 simpa using this
abbrev mA : List (String × DataW Unit) := Rows.registryOnceRow.laid
theorem zij {W : World} {name : String} {g : Nat} {cs : Array Value} (hn : Tryz.prog.globalNamed name = some g) (hv : W.var? Tryz.prog name = some cs) : ∃ t f, W.heap[g]? = some (.cells cs t f) := by
 unfold World.var? at hv
 rw [hn, Option.bind_some] at hv
 split at hv
 · rename_i h
   cases hv
   exact ⟨_, _, h⟩
 · cases hv
theorem zik {W : World} (h : laidMet Tryz.prog mA W) {name : String} {g : Nat} {d : DataW Unit} (hn : Tryz.prog.globalNamed name = some g) (ht : (Tryz.prog.globals[g]?).map (·.type) = some 95) (hm : (name, d) ∈ mA) :
   g < W.heap.size ∧ ∃ b, W.heap[g]? = some b ∧ cell0 (fun v => v = .nilIface ∨ ∃ t p, v = .iface t p) b := by
 obtain ⟨g', t', cs, fuel, p, hg, hty, hvar, hd⟩ := Lib.laidMet.reads h hm
 obtain rfl := Option.some.inj (hn.symm.trans hg)
 obtain rfl := Option.some.inj (ht.symm.trans hty)
 obtain ⟨v, e, hv⟩ := znL Tryz.underlying95 hd
 obtain ⟨t, f, hb⟩ := zij hn hvar
 refine ⟨(Array.getElem?_eq_some_iff.1 hb).1, _, hb, v, ?_, hv⟩
 rw [← Array.getElem?_toList, e]; rfl
theorem znR {W : World} (hL : laidMetH Tryz.prog mA W) (hsh : W.ShapedOpen Tryz.prog) : yP (Go.Abs.base W) := by
 rw [MakeChecks.laidMetH_plain _ _ _ (by kernel_rfl)] at hL
 refine ⟨(fun _ _ h => nomatch h), fun g p hg => ?_⟩
 match g, hg with
 | 0, hg =>
   cases hg
   obtain ⟨m, hm⟩ := cell_of_shapedOpen_int (zero := #[.int .i64 0]) (t := 3) (k := .i64) (g := 0) hsh (of_decide_eq_true (by kernel_rfl)) (by kernel_rfl) rfl (by kernel_rfl) (by kernel_rfl) Tryz.underlying3
   unfold World.cell? at hm
   cases hb : W.heap[0]? with
   | none => rw [hb] at hm; simp at hm
   | some ob =>
     refine ⟨(Array.getElem?_eq_some_iff.1 hb).1, ob, rfl, ?_⟩
     rw [hb] at hm
     cases ob with
     | cells cs t f => exact ⟨_, by simpa using hm, m, rfl⟩
     | _ => simp at hm
 | 1, hg => cases hg; exact zik hL (name := "strconv.ErrSyntax") (by kernel_rfl) (by kernel_rfl) ((.tail _ (.tail _ (.tail _ (.tail _ (.head _))))))
 | 2, hg => cases hg; exact zik hL (name := "strconv.ErrRange") (by kernel_rfl) (by kernel_rfl) ((.tail _ (.tail _ (.tail _ (.head _)))))
 | 3, hg =>
   cases hg
   obtain ⟨g', t', cs, fuel, p, hg', hty, hvar, hd⟩ := Lib.laidMet.reads hL (n := "internal/strconv.uint64pow10") ((.tail _ (.tail _ (.head _))))
   have hn : Tryz.prog.globalNamed "internal/strconv.uint64pow10" = some 3 := by kernel_rfl
   obtain rfl := Option.some.inj (hn.symm.trans hg')
   have hT : (Tryz.prog.globals[3]?).map (·.type) = some 155 := by kernel_rfl
   obtain rfl := Option.some.inj (hT.symm.trans hty)
   obtain ⟨t, f, hb⟩ := zij hn hvar
   refine ⟨(Array.getElem?_eq_some_iff.1 hb).1, _, hb, ?_⟩
   have hd' : DataW.trod (fun _ => ()) Tryz.prog W 0 (fun _ => true) false fuel 155 cs.toList = some (Lib.tabData .u64 zaa, p) := hd
   have e := Lib.cells_of_tab Tryz.underlying155 Tryz.underlying115 (by kernel_rfl) (by kernel_rfl) hd'
   show cs = _
   rw [← e]
theorem znS (os : Os) (args : Array Value) : laidMetH Tryz.prog mA ((World.doorLaid Tryz.prog 400 os).forCall (fun _ _ => 0) ⟨#[], args, []⟩).memory :=
 laidMetH_of_parts3 (fuel := 8) (laidMet_of_run' 8 (by kernel_rfl) (by kernel_rfl)) (by kernel_rfl) (by kernel_rfl)
end Go.Proofs.YtnendldalcpgeaaGreatDoor
