/- A part of the proof; the last text states what is proved. -/
import Derived.Test.YtnendldalcpgeaaGreatDoorP6
set_option linter.unusedVariables false
set_option linter.unusedSimpArgs false
set_option maxRecDepth 100000
set_option maxHeartbeats 4000000
namespace Go.Abs
open Go.Proofs Go.Wire Go.RowKit Go.Jr Go.Rg
structure Wrong (d : Disk) : Prop where
 hi : d.secs.length ≤ 60
 pe : d.pend.length ≤ 60
 no : ¬ Right d
def zil (secs : List Txt) (pend : List Wr) : Prop := (∀ s ∈ secs, s.length = 16) ∧ ∀ w ∈ pend, 0 ≤ w.pos ∧ w.pos < secs.length ∧ w.text.length = 16
theorem Wrong.rest {d : Disk} (h : Wrong d) (h1 : ¬ (d.secs.length : Int) < 1) (h2 : ¬ d.left < -1) (h3 : ¬ d.left > 512) (h4 : d.down = true → d.pend = [] ∧ d.left = -1) : ¬ zil d.secs d.pend := by
 intro hg
 have := h.hi; have := h.pe
 exact h.no ⟨by omega, by omega, by omega, by omega, by omega, h4, hg.1, hg.2⟩
theorem zim (d : Disk) (h : Wrong d) : Spec Tryz.prog 71 [dV d] (fun r => r = .bool false) := by
 refine Spec.of_awlS hf71 okf71 (by simp) fun S hS => ?_
 have hrest := h.rest
 have hhi := h.hi
 have hpe := h.pe
 obtain ⟨secs, pend, left, down⟩ := d
 simp only [] at hrest hhi hpe
 by_cases l0 : (secs.length : Int) < 1
 · simp only [zD, strs_len, zL, l0, Qs, if_true, if_false, Int.reduceNeg, List.nodup_nil, Nat.reduceAdd, Nat.reduceLeDiff, Nat.reduceBEq, uu f71.eq_1, vv f71r41.eq_1, uu f71b42.eq_1, uu f71b43.eq_1, vv f71r44.eq_1, uu f71b45.eq_1, uu f71b46.eq_1, vv f71r47.eq_1, uu f71b48.eq_1]
   exact hS
 have l1 : ¬ (secs.length : Int) > 512 := by omega
 have p1 : ¬ (pend.length : Int) > 512 := by omega
 by_cases f0 : left < -1
 · simp only [zD, strs_len, zL, l0, l1, p1, f0, Qs, if_true, if_false, Int.reduceNeg, List.nodup_nil, Nat.reduceAdd, Nat.reduceLeDiff, Nat.reduceBEq, uu f71.eq_1, vv f71r41.eq_1, uu f71b42.eq_1, uu f71b43.eq_1, vv f71r44.eq_1, uu f71b45.eq_1, uu f71b46.eq_1, vv f71r47.eq_1, uu f71b48.eq_1]
   exact hS
 by_cases f1 : left > 512
 · simp only [zD, strs_len, zL, l0, l1, p1, f0, f1, Qs, if_true, if_false, Int.reduceNeg, List.nodup_nil, Nat.reduceAdd, Nat.reduceLeDiff, Nat.reduceBEq, uu f71.eq_1, vv f71r41.eq_1, uu f71b42.eq_1, uu f71b43.eq_1, vv f71r44.eq_1, uu f71b45.eq_1, uu f71b46.eq_1, vv f71r47.eq_1, uu f71b48.eq_1]
   exact hS
 have key : ¬ zil secs pend → ∀ ts, lookT 1 ts = .k (.ptr 1 0) → awl Tryz.prog f71b40 (endK [RX.t 2] S) ts [(1, yN secs pend left down)] := by
   intro hng ts h1
   simp only [h1, strs_len, zL, Qs, if_false, Nat.reduceAdd, Nat.reduceLeDiff, uu f71b37.eq_1, vv f71r38.eq_1, uu f71b39.eq_1, uu f71b40.eq_1]
   rw [zg0]
   refine zU (fun i : Nat => [(1, .k (.ptr 1 0)), (49, lst 1 (strs secs)), (50, .int .i64 secs.length), (51, .int .i64 i)]) (fun _ => [(1, yN secs pend left down)])
     (fun i => i ≤ secs.length ∧ ∀ s ∈ secs.take i, s.length = 16) (fun i => secs.length - i) 0 (by simp [keepT, lookT, h1]) rfl ⟨Nat.zero_le _, by simp⟩ ?_
   rintro i ⟨hi, h16⟩
   by_cases hlt : i < secs.length
   · have c1 : (i : Int) < secs.length := by omega
     have c4 : IntKind.i64.wrap ((i : Int) + 1) = (i : Int) + 1 := wrap_in (by omega) (by omega)
     by_cases c2 : secs[i].length = 16
     · simp only [strs_len, c1, c2, c4, zX hlt, Qs, if_true, Nat.reduceBEq, Int.reduceBNe, vv f71r22.eq_1, uu f71b25.eq_1, vv f71r26.eq_1, uu f71b27.eq_1, vv f71r28.eq_1, uu f71b29.eq_1, uu f71b30.eq_1, uu f71b31.eq_1, uu f71b32.eq_1, uu f71b33.eq_1, vv f71r34.eq_1, uu f71b35.eq_1]
       refine Next.intro (i + 1) rfl rfl ⟨by omega, fun s hs => ?_⟩ (by omega)
       rw [List.take_succ_eq_append_getElem hlt] at hs
       rcases List.mem_append.1 hs with hs | hs
       · exact h16 s hs
       · rw [List.mem_singleton.1 hs]; exact c2
     · have c3 : ((secs[i].length : Int) != 16) = true := by simp; omega
       simp only [strs_len, c1, c3, c4, zX hlt, Qs, if_true, List.nodup_nil, Nat.reduceBEq, vv f71r22.eq_1, vv f71r23.eq_1, uu f71b24.eq_1, uu f71b25.eq_1, vv f71r26.eq_1, uu f71b27.eq_1, vv f71r28.eq_1, uu f71b29.eq_1, uu f71b30.eq_1, uu f71b31.eq_1, uu f71b32.eq_1, uu f71b33.eq_1, vv f71r34.eq_1, uu f71b35.eq_1]
       exact hS
   · have c1 : ¬ (i : Int) < secs.length := by omega
     obtain rfl : i = secs.length := by omega
     rw [List.take_length] at h16
     simp only [strs_len, zL, c1, Qs, if_true, if_false, Nat.reduceAdd, Nat.reduceLeDiff, Nat.reduceBEq, uu f71b18.eq_1, vv f71r19.eq_1, uu f71b20.eq_1, uu f71b21.eq_1, uu f71b32.eq_1, uu f71b33.eq_1, vv f71r34.eq_1, uu f71b35.eq_1]
     rw [zgZ]
     refine zU (fun i : Nat => [(1, .k (.ptr 1 0)), (60, lst 2 (wrs pend)), (61, .int .i64 pend.length), (62, .int .i64 i)]) (fun _ => [(1, yN secs pend left down)])
       (fun i => i ≤ pend.length ∧ ∀ w ∈ pend.take i, 0 ≤ w.pos ∧ w.pos < secs.length ∧ w.text.length = 16) (fun i => pend.length - i) 0 rfl rfl ⟨Nat.zero_le _, by simp⟩ ?_
     rintro i ⟨hi, hw⟩
     by_cases hlt : i < pend.length
     · have c1 : (i : Int) < pend.length := by omega
       have c4 : IntKind.i64.wrap ((i : Int) + 1) = (i : Int) + 1 := wrap_in (by omega) (by omega)
       by_cases c5 : pend[i].pos < 0
       · simp only [strs_len, zL, c1, c4, c5, xP hlt, Qs, if_true, if_false, bne_iff_ne, ne_eq, List.append_nil, List.nodup_nil, Nat.reduceAdd, Nat.reduceEqDiff, Nat.reduceLeDiff, Nat.reduceBEq, vv f71r3.eq_1, vv f71r4.eq_1, uu f71b5.eq_1, uu f71b6.eq_1, vv f71r7.eq_1, uu f71b8.eq_1, vv f71r9.eq_1, uu f71b10.eq_1, uu f71b11.eq_1, uu f71b12.eq_1, uu f71b13.eq_1, uu f71b14.eq_1, vv f71r15.eq_1, uu f71b16.eq_1]
         exact hS
       by_cases c6 : pend[i].pos ≥ secs.length
       · simp only [strs_len, zL, c1, c4, c5, c6, xP hlt, Qs, if_true, if_false, bne_iff_ne, ne_eq, List.append_nil, List.nodup_nil, Nat.reduceAdd, Nat.reduceEqDiff, Nat.reduceLeDiff, Nat.reduceBEq, vv f71r3.eq_1, vv f71r4.eq_1, uu f71b5.eq_1, uu f71b6.eq_1, vv f71r7.eq_1, uu f71b8.eq_1, vv f71r9.eq_1, uu f71b10.eq_1, uu f71b11.eq_1, uu f71b12.eq_1, uu f71b13.eq_1, uu f71b14.eq_1, vv f71r15.eq_1, uu f71b16.eq_1]
         exact hS
       by_cases c2 : pend[i].text.length = 16
       · simp only [strs_len, zL, c1, c4, c5, c6, c2, xP hlt, Qs, if_true, if_false, bne_iff_ne, ne_eq, List.append_nil, Nat.reduceAdd, Nat.reduceEqDiff, Nat.reduceLeDiff, Nat.reduceBEq, Int.reduceBNe, vv f71r3.eq_1, uu f71b6.eq_1, vv f71r7.eq_1, uu f71b8.eq_1, vv f71r9.eq_1, uu f71b10.eq_1, uu f71b11.eq_1, uu f71b12.eq_1, uu f71b13.eq_1, uu f71b14.eq_1, vv f71r15.eq_1, uu f71b16.eq_1]
         refine Next.intro (i + 1) rfl rfl ⟨by omega, fun s hs => ?_⟩ (by omega)
         rw [List.take_succ_eq_append_getElem hlt] at hs
         rcases List.mem_append.1 hs with hs | hs
         · exact hw s hs
         · rw [List.mem_singleton.1 hs]; exact ⟨by omega, by omega, c2⟩
       · have c3 : ((pend[i].text.length : Int) != 16) = true := by simp; omega
         simp only [strs_len, zL, c1, c4, c5, c6, c3, xP hlt, Qs, if_true, if_false, bne_iff_ne, ne_eq, List.append_nil, List.nodup_nil, Nat.reduceAdd, Nat.reduceEqDiff, Nat.reduceLeDiff, Nat.reduceBEq, vv f71r3.eq_1, vv f71r4.eq_1, uu f71b5.eq_1, uu f71b6.eq_1, vv f71r7.eq_1, uu f71b8.eq_1, vv f71r9.eq_1, uu f71b10.eq_1, uu f71b11.eq_1, uu f71b12.eq_1, uu f71b13.eq_1, uu f71b14.eq_1, vv f71r15.eq_1, uu f71b16.eq_1]
         exact hS
     · obtain rfl : i = pend.length := by omega
       rw [List.take_length] at hw
       exact absurd ⟨h16, hw⟩ hng
 cases down
 · simp only [zD, strs_len, zL, l0, l1, p1, f0, f1, Qs, if_true, if_false, Int.reduceNeg, Nat.reduceAdd, Nat.reduceLeDiff, Nat.reduceBEq, uu f71.eq_1, uu f71b43.eq_1, vv f71r44.eq_1, uu f71b45.eq_1, uu f71b46.eq_1, vv f71r47.eq_1, uu f71b48.eq_1]
   exact key (hrest l0 f0 f1 (by simp)) _ rfl
 · by_cases e1 : (pend.length : Int) > 0
   · simp only [zD, strs_len, zL, l0, l1, p1, f0, f1, e1, Qs, if_true, if_false, Int.reduceNeg, List.nodup_nil, Nat.reduceAdd, Nat.reduceLeDiff, Nat.reduceBEq, uu f71.eq_1, vv f71r41.eq_1, uu f71b42.eq_1, uu f71b43.eq_1, vv f71r44.eq_1, uu f71b45.eq_1, uu f71b46.eq_1, vv f71r47.eq_1, uu f71b48.eq_1]
     exact hS
   by_cases e2 : left = -1
   · subst e2
     simp only [zD, strs_len, zL, l0, l1, p1, f0, f1, e1, Qs, if_true, if_false, Int.reduceNeg, Nat.reduceAdd, Nat.reduceLeDiff, Nat.reduceBEq, Int.reduceBNe, uu f71.eq_1, uu f71b43.eq_1, vv f71r44.eq_1, uu f71b45.eq_1, uu f71b46.eq_1, vv f71r47.eq_1, uu f71b48.eq_1]
     exact key (hrest l0 f0 f1 (fun _ => ⟨List.length_eq_zero_iff.1 (by omega), rfl⟩)) _ rfl
   · have e3 : (left != -1) = true := by simpa using e2
     simp only [zD, strs_len, zL, l0, l1, p1, f0, f1, e1, e3, Qs, if_true, if_false, Int.reduceNeg, List.nodup_nil, Nat.reduceAdd, Nat.reduceLeDiff, Nat.reduceBEq, uu f71.eq_1, vv f71r41.eq_1, uu f71b42.eq_1, uu f71b43.eq_1, vv f71r44.eq_1, uu f71b45.eq_1, uu f71b46.eq_1, vv f71r47.eq_1, uu f71b48.eq_1]
     exact hS
theorem zin (d : Disk) (h : Wrong d) : Spec Tryz.prog 42 [dV d] (fun r => r = .int .i64 1) := by
 refine Spec.of_awlS hf42 okf42 (by simp) fun S hS => ?_
 have hrest := h.rest
 have hhi := h.hi
 have hpe := h.pe
 obtain ⟨secs, pend, left, down⟩ := d
 simp only [] at hrest hhi hpe
 by_cases l0 : (secs.length : Int) < 1
 · simp only [zD, strs_len, zL, l0, Qs, if_true, if_false, Int.reduceNeg, List.nodup_nil, Nat.reduceAdd, Nat.reduceLeDiff, Nat.reduceBEq, uu f42.eq_1, vv f42r45.eq_1, uu f42b46.eq_1, uu f42b47.eq_1, vv f42r48.eq_1, uu f42b49.eq_1, uu f42b50.eq_1, vv f42r51.eq_1, uu f42b52.eq_1]
   exact hS
 have l1 : ¬ (secs.length : Int) > 512 := by omega
 have p1 : ¬ (pend.length : Int) > 512 := by omega
 by_cases f0 : left < -1
 · simp only [zD, strs_len, zL, l0, l1, p1, f0, Qs, if_true, if_false, Int.reduceNeg, List.nodup_nil, Nat.reduceAdd, Nat.reduceLeDiff, Nat.reduceBEq, uu f42.eq_1, vv f42r45.eq_1, uu f42b46.eq_1, uu f42b47.eq_1, vv f42r48.eq_1, uu f42b49.eq_1, uu f42b50.eq_1, vv f42r51.eq_1, uu f42b52.eq_1]
   exact hS
 by_cases f1 : left > 512
 · simp only [zD, strs_len, zL, l0, l1, p1, f0, f1, Qs, if_true, if_false, Int.reduceNeg, List.nodup_nil, Nat.reduceAdd, Nat.reduceLeDiff, Nat.reduceBEq, uu f42.eq_1, vv f42r45.eq_1, uu f42b46.eq_1, uu f42b47.eq_1, vv f42r48.eq_1, uu f42b49.eq_1, uu f42b50.eq_1, vv f42r51.eq_1, uu f42b52.eq_1]
   exact hS
 simp only [zD, strs_len, zL, l0, l1, p1, f0, f1, Qs, if_true, if_false, Int.reduceNeg, Nat.reduceAdd, Nat.reduceLeDiff, Nat.reduceBEq, uu f42.eq_1, uu f42b41.eq_1, vv f42r42.eq_1, uu f42b43.eq_1, uu f42b44.eq_1, uu f42b47.eq_1, vv f42r48.eq_1, uu f42b49.eq_1, uu f42b50.eq_1, vv f42r51.eq_1, uu f42b52.eq_1]
 rw [zgY]
 refine zU (fun i : Nat => [(1, .k (.ptr 1 0)), (3, .int .i64 i)]) (fun _ => [(1, yN secs pend left down)])
   (fun i => i ≤ secs.length ∧ ∀ s ∈ secs.take i, s.length = 16) (fun i => secs.length - i) 0 rfl rfl ⟨Nat.zero_le _, by simp⟩ ?_
 rintro i ⟨hi, h16⟩
 by_cases hlt : i < secs.length
 · have c1 : (i : Int) < secs.length := by omega
   have c4 : IntKind.i64.wrap ((i : Int) + 1) = (i : Int) + 1 := wrap_in (by omega) (by omega)
   by_cases c2 : secs[i].length = 16
   · simp only [strs_len, c1, c2, c4, zX hlt, Qs, if_true, if_false, Nat.reduceAdd, Nat.reduceLeDiff, Nat.reduceBEq, Int.reduceBNe, vv f42r28.eq_1, uu f42b31.eq_1, vv f42r32.eq_1, uu f42b33.eq_1, uu f42b34.eq_1, uu f42b35.eq_1, uu f42b36.eq_1, vv f42r37.eq_1, uu f42b38.eq_1, uu f42b39.eq_1]
     refine Next.intro (i + 1) rfl rfl ⟨by omega, fun s hs => ?_⟩ (by omega)
     rw [List.take_succ_eq_append_getElem hlt] at hs
     rcases List.mem_append.1 hs with hs | hs
     · exact h16 s hs
     · rw [List.mem_singleton.1 hs]; exact c2
   · have c3 : ((secs[i].length : Int) != 16) = true := by simp; omega
     simp only [strs_len, c1, c3, c4, zX hlt, Qs, if_true, if_false, List.nodup_nil, Nat.reduceAdd, Nat.reduceLeDiff, Nat.reduceBEq, vv f42r28.eq_1, vv f42r29.eq_1, uu f42b30.eq_1, uu f42b31.eq_1, vv f42r32.eq_1, uu f42b33.eq_1, uu f42b34.eq_1, uu f42b35.eq_1, uu f42b36.eq_1, vv f42r37.eq_1, uu f42b38.eq_1, uu f42b39.eq_1]
     exact hS
 · have c1 : ¬ (i : Int) < secs.length := by omega
   obtain rfl : i = secs.length := by omega
   rw [List.take_length] at h16
   simp only [strs_len, zL, c1, Qs, if_true, if_false, Nat.reduceAdd, Nat.reduceLeDiff, Nat.reduceBEq, uu f42b24.eq_1, vv f42r25.eq_1, uu f42b26.eq_1, uu f42b27.eq_1, uu f42b36.eq_1, vv f42r37.eq_1, uu f42b38.eq_1, uu f42b39.eq_1]
   rw [zgX]
   refine zU (fun i : Nat => [(1, .k (.ptr 1 0)), (4, .int .i64 i)]) (fun _ => [(1, yN secs pend left down)])
     (fun i => i ≤ pend.length ∧ ∀ w ∈ pend.take i, 0 ≤ w.pos ∧ w.pos < secs.length ∧ w.text.length = 16) (fun i => pend.length - i) 0 rfl rfl ⟨Nat.zero_le _, by simp⟩ ?_
   rintro i ⟨hi, hw⟩
   by_cases hlt : i < pend.length
   · have c1 : (i : Int) < pend.length := by omega
     have c4 : IntKind.i64.wrap ((i : Int) + 1) = (i : Int) + 1 := wrap_in (by omega) (by omega)
     by_cases c5 : pend[i].pos < 0
     · simp only [strs_len, zL, c1, c4, c5, xP hlt, Qs, if_true, if_false, bne_iff_ne, ne_eq, List.append_nil, List.nodup_nil, Nat.reduceAdd, Nat.reduceEqDiff, Nat.reduceLeDiff, Nat.reduceBEq, vv f42r9.eq_1, vv f42r10.eq_1, uu f42b11.eq_1, uu f42b12.eq_1, vv f42r13.eq_1, uu f42b14.eq_1, vv f42r15.eq_1, uu f42b16.eq_1, uu f42b17.eq_1, uu f42b18.eq_1, uu f42b19.eq_1, vv f42r20.eq_1, uu f42b21.eq_1, uu f42b22.eq_1]
       exact hS
     by_cases c6 : pend[i].pos ≥ secs.length
     · simp only [strs_len, zL, c1, c4, c5, c6, xP hlt, Qs, if_true, if_false, bne_iff_ne, ne_eq, List.append_nil, List.nodup_nil, Nat.reduceAdd, Nat.reduceEqDiff, Nat.reduceLeDiff, Nat.reduceBEq, vv f42r9.eq_1, vv f42r10.eq_1, uu f42b11.eq_1, uu f42b12.eq_1, vv f42r13.eq_1, uu f42b14.eq_1, vv f42r15.eq_1, uu f42b16.eq_1, uu f42b17.eq_1, uu f42b18.eq_1, uu f42b19.eq_1, vv f42r20.eq_1, uu f42b21.eq_1, uu f42b22.eq_1]
       exact hS
     by_cases c2 : pend[i].text.length = 16
     · simp only [strs_len, zL, c1, c4, c5, c6, c2, xP hlt, Qs, if_true, if_false, bne_iff_ne, ne_eq, List.append_nil, Nat.reduceAdd, Nat.reduceEqDiff, Nat.reduceLeDiff, Nat.reduceBEq, Int.reduceBNe, vv f42r9.eq_1, uu f42b12.eq_1, vv f42r13.eq_1, uu f42b14.eq_1, vv f42r15.eq_1, uu f42b16.eq_1, uu f42b17.eq_1, uu f42b18.eq_1, uu f42b19.eq_1, vv f42r20.eq_1, uu f42b21.eq_1, uu f42b22.eq_1]
       refine Next.intro (i + 1) rfl rfl ⟨by omega, fun s hs => ?_⟩ (by omega)
       rw [List.take_succ_eq_append_getElem hlt] at hs
       rcases List.mem_append.1 hs with hs | hs
       · exact hw s hs
       · rw [List.mem_singleton.1 hs]; exact ⟨by omega, by omega, c2⟩
     · have c3 : ((pend[i].text.length : Int) != 16) = true := by simp; omega
       simp only [strs_len, zL, c1, c4, c5, c6, c3, xP hlt, Qs, if_true, if_false, bne_iff_ne, ne_eq, List.append_nil, List.nodup_nil, Nat.reduceAdd, Nat.reduceEqDiff, Nat.reduceLeDiff, Nat.reduceBEq, vv f42r9.eq_1, vv f42r10.eq_1, uu f42b11.eq_1, uu f42b12.eq_1, vv f42r13.eq_1, uu f42b14.eq_1, vv f42r15.eq_1, uu f42b16.eq_1, uu f42b17.eq_1, uu f42b18.eq_1, uu f42b19.eq_1, vv f42r20.eq_1, uu f42b21.eq_1, uu f42b22.eq_1]
       exact hS
   · have c1 : ¬ (i : Int) < pend.length := by omega
     obtain rfl : i = pend.length := by omega
     rw [List.take_length] at hw
     cases down
     · exact absurd ⟨h16, hw⟩ (hrest l0 f0 f1 (by simp))
     · by_cases e1 : (pend.length : Int) > 0
       · simp only [zL, c1, e1, Qs, if_true, if_false, Int.reduceNeg, List.nodup_nil, Nat.reduceAdd, Nat.reduceLeDiff, Nat.reduceBEq, vv f42r3.eq_1, uu f42b4.eq_1, uu f42b5.eq_1, vv f42r6.eq_1, uu f42b7.eq_1, uu f42b8.eq_1, uu f42b19.eq_1, vv f42r20.eq_1, uu f42b21.eq_1, uu f42b22.eq_1]
         exact hS
       by_cases e2 : left = -1
       · exact absurd ⟨h16, hw⟩ (hrest l0 f0 f1 (fun _ => ⟨List.length_eq_zero_iff.1 (by omega), e2⟩))
       · have e3 : (left != -1) = true := by simpa using e2
         simp only [zL, c1, e1, e3, Qs, if_true, if_false, Int.reduceNeg, List.nodup_nil, Nat.reduceAdd, Nat.reduceLeDiff, Nat.reduceBEq, vv f42r3.eq_1, uu f42b4.eq_1, uu f42b5.eq_1, vv f42r6.eq_1, uu f42b7.eq_1, uu f42b8.eq_1, uu f42b19.eq_1, vv f42r20.eq_1, uu f42b21.eq_1, uu f42b22.eq_1]
         exact hS
end Go.Abs
set_option maxRecDepth 100000
set_option maxHeartbeats 4000000
namespace Go.Proofs
open Go.Shelf Go.RowKit Go.Lib Go.Sort Go.Rg Go.Wire
theorem znT (v : Value) (w : World) (h48 : Calls Tryz.prog 48 #[v] w fun e w' => e = .returned (.bool false) ∧ Below w.heap.size w w') :
   Calls Tryz.prog 21 #[v] w fun e w' => e = .returned (.slice none 0 0) ∧ Below w.heap.size w w' := by
 go_enter Tryz.func21, Tryz.ntmps21
 go_wp2_with (go_at_call 48; refine h48.mono ?_; rintro e w1 ⟨rfl, hb1⟩)
 go_ret
 exact ⟨rfl, hb1⟩
theorem znU (p : Option Addr) (n c : Nat) (i : Int) (w : World) (t : Bool) (ht : t = false ∨ (t = true ∧ i < 0) ∨ (t = true ∧ ¬ i < 0 ∧ (n : Int) ≤ i))
   (h48 : Aside (∀ w', Below w.heap.size w w' → Calls Tryz.prog 48 #[.slice p n c] w' fun e w2 => e = .returned (.bool t) ∧ Below w'.heap.size w' w2)) :
   Calls Tryz.prog 23 #[.slice p n c, .int .i64 i] w fun e w' => e = .returned (.slice none 0 0) ∧ Below w.heap.size w w' := by
 have hb0 : Below w.heap.size w ((w.alloc (.cells #[.slice p n c] 26)).alloc (.cells #[.int .i64 i] 3)) := ((Below.refl _ _).alloc (Nat.le_refl _) _).alloc (by simp) _
 have c48 := h48.out _ hb0
 have hsz : (w.alloc (.cells #[.slice p n c] 26)).heap.size = w.heap.size + 1 := Array.size_push _
 have hsz2 : ((w.alloc (.cells #[.slice p n c] 26)).alloc (.cells #[.int .i64 i] 3)).heap.size = w.heap.size + 2 := (Array.size_push _).trans (by rw [hsz])
 have g2 : ((w.alloc (.cells #[.slice p n c] 26)).alloc (.cells #[.int .i64 i] 3)).cell? ⟨w.heap.size, 0, none⟩ = some (.slice p n c) :=
   by rw [Lib.cell_of_heap ((Below.heap_alloc (w.alloc (.cells #[.slice p n c] 26)) (.cells #[.int .i64 i] 3) w.heap.size (by rw [hsz]; omega)).trans (heap_alloc_new w (.cells #[.slice p n c] 26)))]; rfl
 have g3 : ((w.alloc (.cells #[.slice p n c] 26)).alloc (.cells #[.int .i64 i] 3)).cell? ⟨w.heap.size + 1, 0, none⟩ = some (.int .i64 i) := by
   have h := heap_alloc_new (w.alloc (.cells #[.slice p n c] 26)) (.cells #[.int .i64 i] 3)
   rw [hsz] at h
   rw [Lib.cell_of_heap h]; rfl
 have G := sU (And.intro hb0 (And.intro g2 (And.intro g3 hsz2)))
 clear hb0 g2 g3 hsz hsz2 h48
 rcases ht with rfl | ⟨rfl, h1⟩ | ⟨rfl, h1, h2⟩
 all_goals
   go_enter Tryz.func23, Tryz.ntmps23
   go_wp2_with (go_at_call 48; go_loud (refine c48.mono ?_; rintro e w1 ⟨rfl, hb1⟩; have k1 : Below w.heap.size w w1 := G.out.1.trans (hb1.mono (by rw [G.out.2.2.2]; omega)); have k2 : w1.cell? ⟨w.heap.size, 0, none⟩ = some (.slice p n c) := (hb1.cell (p := ⟨w.heap.size, 0, none⟩) (by rw [G.out.2.2.2]; show w.heap.size < _; omega)).trans G.out.2.1; have k3 : w1.cell? ⟨w.heap.size + 1, 0, none⟩ = some (.int .i64 i) := (hb1.cell (p := ⟨w.heap.size + 1, 0, none⟩) (by show w.heap.size + 1 < _; simp)).trans G.out.2.2.1; have K1 := sU k1; clear k1 hb1 c48))
   go_ret
   exact ⟨rfl, K1.out⟩
end Go.Proofs
namespace Go.Abs
open Go.Proofs Go.Wire Go.RowKit Go.Jr Go.Rg
theorem zio {w w' : World} (hG : yP (base w)) (Z : Bk → Prop) (hb : Below w.heap.size w w') : uH (base w) Z (.k (.newl 9 1 none (strs []))) (.slice none 0 0) w' :=
 iL (ag := []) hG Z ⟨rfl, .inl ⟨rfl, rfl⟩⟩ hb
theorem znV (l : List (List Txt)) (hw : ∀ x ∈ l, ∀ s ∈ x, s.length ≤ maxLen) : Spec Tryz.prog 21 [lst 1 (lls l)] (fun r => r = .k (.newl 9 1 none (strs (agreeX l)))) := by
 unfold agreeX
 cases hR : y0 l with
 | true => rw [if_pos rfl]; exact v21 l hw hR
 | false =>
   rw [if_neg (by simp)]
   refine ⟨vL (by kernel_rfl), fun w Z vs hG hz ha => ?_⟩
   obtain ⟨vl⟩ := vs
   match vl, ha with
   | [], ha => exact absurd ha.1 (by simp)
   | _ :: _ :: _, ha => exact absurd ha.1 (by simp)
   | [v], ha =>
     have c48 := Spec.calls_bool (v48 l) hG hz (n8 (ha.2 0 _ v rfl rfl).2.2)
     rw [hR] at c48
     refine (znT v w c48).mono ?_
     rintro e w' ⟨rfl, hb⟩
     exact ⟨_, _, rfl, rfl, fun τ => rfl, zio hG _ hb⟩
theorem znW (l : List (List Txt)) (hw : ∀ x ∈ l, ∀ s ∈ x, s.length ≤ maxLen) (i : Int) : Spec Tryz.prog 23 [lst 1 (lls l), .int .i64 i] (fun r => r = .k (.newl 9 1 none (strs (tN l i)))) := by
 by_cases hok : y0 l = true ∧ ¬ i < 0 ∧ i < l.length
 · obtain ⟨hR, h0, h1⟩ := hok
   obtain ⟨n, rfl⟩ : ∃ n : Nat, i = n := ⟨i.toNat, by omega⟩
   have := v23 l hw hR n (by omega)
   unfold tN
   rw [if_neg (by omega)]
   exact this
 · have he : tN l i = [] := by
     unfold tN
     split
     · rfl
     · unfold sT agreeX
       rw [if_neg (fun h => hok ⟨h, by omega, by omega⟩)]
       rfl
   rw [he]
   refine ⟨vL (by kernel_rfl), fun w Z vs hG hz ha => ?_⟩
   obtain ⟨vl⟩ := vs
   match vl, ha with
   | [], ha => exact absurd ha.1 (by simp)
   | [_], ha => exact absurd ha.1 (by simp)
   | _ :: _ :: _ :: _, ha => exact absurd ha.1 (by simp)
   | [v, vi], ha =>
     have hv : PRep w Z (lstC 1 (lls l)) v := (ha.2 0 _ v rfl rfl).2.2
     have hvi : vi = .int .i64 i := by
       have h : PRep w Z (.int .i64 i) vi := (ha.2 1 _ vi rfl rfl).2.2
       cases h; rfl
     subst hvi
     have hv0 := hv
     obtain ⟨p, cap, b, o, V, rfl, hp, hV⟩ := iK hz hv
     have hsame : ∀ w', Below w.heap.size w w' → PRep w' Z (lstC 1 (lls l)) (.slice p l.length cap) := fun w' hb => PRep.mono (fun bb hbb => hb.block _ (hz _ hbb)) (fun _ h => h) hv0
     have hz' : ∀ w', Below w.heap.size w w' → ∀ b, Z b → b.2 < w'.heap.size := fun w' hb bb hbb => Nat.lt_of_lt_of_le (hz bb hbb) hb.size
     have hG' : ∀ w', Below w.heap.size w w' → yP (base w') := fun w' hb => hG.later (wU hb)
     refine (znU p l.length cap i w (y0 l) ?_ (sU fun w' hb => Spec.calls_bool (v48 l) (hG' w' hb) (hz' w' hb) (n8 (hsame w' hb)))).mono ?_
     · cases hR : y0 l with
       | false => exact .inl rfl
       | true =>
         by_cases h0 : i < 0
         · exact .inr (.inl ⟨rfl, h0⟩)
         · exact .inr (.inr ⟨rfl, h0, Int.not_lt.1 fun h => hok ⟨hR, h0, h⟩⟩)
     · rintro e w' ⟨rfl, hb⟩
       exact ⟨_, _, rfl, rfl, fun τ => rfl, zio hG _ hb⟩
end Go.Abs
set_option maxRecDepth 100000
set_option maxHeartbeats 4000000
namespace Go.Abs
open Go.Proofs Go.Wire Go.RowKit Go.Jr Go.Rg
end Go.Abs
set_option maxRecDepth 100000
set_option maxHeartbeats 4000000
namespace Go.Abs
open Go.Proofs Go.Wire Go.RowKit Go.Jr
structure Whole (n : Nat) (d : Disk) (l : List Txt) : Prop where
 ex : ∃ c m, Jr.Inv d l c ∧ m ≤ (wN wS l).length ∧ d.secs.getD (1 - c) [] = hdr m
 secs : d.secs.length = n
 left : d.left = -1
theorem Whole.right {n : Nat} {d : Disk} {l : List Txt} (h : Whole n d l) : Right d := by
 obtain ⟨c, m, hi, _⟩ := h.ex
 exact hi.right
end Go.Abs
set_option maxRecDepth 100000
namespace Go.Abs
open Go.Proofs Go.Wire Go.RowKit Go.Jr Go.Rg
theorem Whole.take_new {n : Nat} {d : Disk} {m : List Txt} {s : Txt} (h : Whole n d m) (hs : s ∉ m) : takeR d s = appendJ d s := by
 obtain ⟨⟨c, _, hi, _⟩, _⟩ := h
 exact Abs.take_new hi hs
theorem Whole.take_old {n : Nat} {d : Disk} {m : List Txt} {s : Txt} (h : Whole n d m) (hs : s ∈ m) : takeR d s = (d, 5) := by
 obtain ⟨⟨c, _, hi, _⟩, _⟩ := h
 exact Abs.take_old hi hs
structure Hath (n : Nat) (d : Disk) (m : List Txt) : Prop where
 ex : ∃ c, Jr.Inv d m c
 secs : d.secs.length = n
 left : d.left = -1
theorem Hath.right {n : Nat} {d : Disk} {m : List Txt} (h : Hath n d m) : Right d := let ⟨_, hi⟩ := h.ex; hi.right
theorem Hath.read {n : Nat} {d : Disk} {m : List Txt} (h : Hath n d m) : (readJ d).1.list = m ∧ (readJ d).2 = 0 := by
 obtain ⟨c, hi⟩ := h.ex
 rw [hi.read]; exact ⟨rfl, rfl⟩
section
variable (a b c : List Txt)
end
end Go.Abs
set_option maxRecDepth 100000
set_option maxHeartbeats 4000000
namespace Go.Abs
open Go.Proofs Go.Wire Go.RowKit Go.Jr Go.Rg
def pG (s : Txt) : Bool := decide ((s.length : Int) ≤ 60)
def okL (x : List Txt) : Bool := (decide ((x.length : Int) ≤ 20) || (decide ((x.length : Int) > 500) && decide ((x.length : Int) ≤ 1000))) && x.all pG
def tP (l : List (List Txt)) : Bool := decide ((l.length : Int) ≤ 5) && l.all okL
theorem iM {l : List (List Txt)} {x : List Txt} (hx : x ∈ l) (h : okL x = false) : tP l = false := by
 unfold tP
 rw [Bool.and_eq_false_iff]
 right
 rw [List.all_eq_false]
 exact ⟨x, hx, by simp [h]⟩
theorem znX {l : List (List Txt)} (h : tP l = true) : l.length ≤ 5 ∧ ∀ x ∈ l, x.length ≤ 1000 ∧ ∀ s ∈ x, s.length ≤ 60 := by
 unfold tP at h
 simp only [Bool.and_eq_true, decide_eq_true_eq, List.all_eq_true] at h
 refine ⟨by omega, fun x hx => ?_⟩
 have h1 := h.2 x hx
 unfold okL at h1
 simp only [Bool.and_eq_true, Bool.or_eq_true, decide_eq_true_eq, List.all_eq_true] at h1
 refine ⟨by omega, fun s hs => ?_⟩
 have := h1.2 s hs
 simp [pG] at this
 omega
theorem v10 (l : List (List Txt)) : Spec Tryz.prog 10 [lst 1 (lls l)] (fun r => r = .bool (tP l)) := by
 refine Spec.of_len hf10 fun hlen => ?_
 have hl := sP (sz := 1) (rows := lls l) List.mem_cons_self hlen
 rw [yA] at hl
 clear hlen
 refine Spec.of_awlS hf10 okf10 (by simp) fun S hS => ?_
 simp only [Qs, uu f10.eq_1, uu f10b33.eq_1, vv f10r34.eq_1, uu f10b35.eq_1, uu f10b36.eq_1, vv f10r37.eq_1, uu f10b38.eq_1]
 rw [zld]
 refine zU (fun i : Nat => [(0, lst 1 (lls l)), (3, .int .i64 i)]) (fun _ => []) (fun i => i ≤ l.length ∧ i ≤ 10 ∧ (l.take i).all okL = true) (fun i => l.length - i) 0 rfl rfl ⟨Nat.zero_le _, by omega, rfl⟩ ?_
 rintro i ⟨hi, h5, hd⟩
 have fin2 : ¬ (i < l.length ∧ i < 10) → S (.bool (decide ((l.length : Int) ≤ 5))) := by
   intro hno
   refine fin hS ?_
   by_cases h3 : (l.length : Int) ≤ 5
   · obtain rfl : i = l.length := by omega
     rw [List.take_length] at hd
     unfold tP
     rw [decide_eq_true h3, hd]; rfl
   · unfold tP; rw [decide_eq_false h3, Bool.false_and]
 by_cases hlt : i < l.length
 · have c1 : (i : Int) < l.length := by omega
   have hm := List.getElem_mem hlt
   by_cases hlt5 : i < 10
   · have c2 : (i : Int) < 10 := by omega
     have c4 : IntKind.i64.wrap ((i : Int) + 1) = (i : Int) + 1 := wrap_in (by omega) (by omega)
     by_cases h20 : (l[i].length : Int) > 20 ∧ (l[i].length : Int) ≤ 500
     · obtain ⟨b1, b2⟩ := h20
       simp only [c1, c2, c4, b1, b2, yA, xG hlt, strs_len, zA, Qs, sH, if_true, List.nodup_nil, Nat.reduceBEq, vv f10r3.eq_1, vv f10r20.eq_1, uu f10b21.eq_1, uu f10b22.eq_1, vv f10r23.eq_1, uu f10b24.eq_1, uu f10b25.eq_1, uu f10b26.eq_1, uu f10b27.eq_1, uu f10b28.eq_1, vv f10r29.eq_1, uu f10b30.eq_1, uu f10b31.eq_1]
       refine fin hS ?_
       rw [iM hm]
       unfold okL
       rw [decide_eq_false (by omega), decide_eq_false (by omega)]; rfl
     by_cases h1000 : (l[i].length : Int) > 1000
     · have b1 : (l[i].length : Int) > 20 := by omega
       have b2 : ¬ (l[i].length : Int) ≤ 500 := by omega
       simp only [c1, c2, c4, b1, b2, h1000, yA, xG hlt, strs_len, zA, Qs, sH, if_true, if_false, List.nodup_nil, Nat.reduceBEq, vv f10r3.eq_1, vv f10r20.eq_1, uu f10b21.eq_1, uu f10b22.eq_1, vv f10r23.eq_1, uu f10b24.eq_1, uu f10b25.eq_1, uu f10b26.eq_1, uu f10b27.eq_1, uu f10b28.eq_1, vv f10r29.eq_1, uu f10b30.eq_1, uu f10b31.eq_1]
       refine fin hS ?_
       rw [iM hm]
       unfold okL
       rw [decide_eq_false (by omega), decide_eq_false (p := (l[i].length : Int) ≤ 1000) (by omega)]; simp
     have hlenok : (decide ((l[i].length : Int) ≤ 20) || (decide ((l[i].length : Int) > 500) && decide ((l[i].length : Int) ≤ 1000))) = true := by
       by_cases h : (l[i].length : Int) ≤ 20
       · rw [decide_eq_true h]; rfl
       · rw [decide_eq_true (p := (l[i].length : Int) > 500) (by omega), decide_eq_true (p := (l[i].length : Int) ≤ 1000) (by omega)]; simp
     have hor : ¬ (l[i].length : Int) > 20 ∨ ((l[i].length : Int) > 20 ∧ ¬ (l[i].length : Int) ≤ 500) := by omega
     rcases hor with b1 | ⟨b1, b2⟩
     all_goals
       simp only [*, yA, xG hlt, strs_len, zA, Qs, sH, if_true, if_false, Nat.reduceBEq, vv f10r3.eq_1, uu f10b17.eq_1, vv f10r18.eq_1, uu f10b19.eq_1, uu f10b22.eq_1, vv f10r23.eq_1, uu f10b24.eq_1, uu f10b25.eq_1, uu f10b26.eq_1, uu f10b27.eq_1, uu f10b28.eq_1, vv f10r29.eq_1, uu f10b30.eq_1, uu f10b31.eq_1]
       rw [zlc]
       refine zU (fun k : Nat => [(0, lst 1 (lls l)), (3, .int .i64 i), (4, .int .i64 k)]) (fun _ => []) (fun k => k ≤ l[i].length ∧ (l[i].take k).all pG = true) (fun k => l[i].length - k) 0 rfl rfl ⟨Nat.zero_le _, rfl⟩ ?_
       rintro k ⟨hk, hs⟩
       by_cases hkt : k < l[i].length
       · have d1 : (k : Int) < l[i].length := by omega
         have d4 : IntKind.i64.wrap ((k : Int) + 1) = (k : Int) + 1 := wrap_in (by omega) (by omega)
         by_cases h60 : (l[i][k].length : Int) > 60
         · simp only [c1, d1, d4, h60, yA, xG hlt, strs_len, zX hkt, zA, Qs, if_true, List.nodup_nil, Nat.reduceBEq, vv f10r4.eq_1, vv f10r5.eq_1, uu f10b6.eq_1, uu f10b7.eq_1, vv f10r8.eq_1, uu f10b9.eq_1, uu f10b10.eq_1, uu f10b11.eq_1, uu f10b12.eq_1, vv f10r13.eq_1, uu f10b14.eq_1, uu f10b15.eq_1]
           refine fin hS ?_
           rw [iM hm]
           unfold okL
           rw [Bool.and_eq_false_iff]
           right
           rw [List.all_eq_false]
           exact ⟨l[i][k], List.getElem_mem hkt, by simp [pG]; omega⟩
         · simp only [c1, d1, d4, h60, yA, xG hlt, strs_len, zX hkt, zA, Qs, if_true, Nat.reduceBEq, vv f10r4.eq_1, uu f10b7.eq_1, vv f10r8.eq_1, uu f10b9.eq_1, uu f10b10.eq_1, uu f10b11.eq_1, uu f10b12.eq_1, vv f10r13.eq_1, uu f10b14.eq_1, uu f10b15.eq_1]
           refine Next.intro (k + 1) rfl rfl ⟨by omega, ?_⟩ (by omega)
           rw [List.take_add_one, List.getElem?_eq_getElem hkt, List.all_append, hs]
           simp [pG]; omega
       · obtain rfl : k = l[i].length := by omega
         have d1 : ¬ (l[i].length : Int) < l[i].length := by omega
         rw [List.take_length] at hs
         simp only [c1, c2, c4, d1, yA, xG hlt, strs_len, zA, Qs, if_true, if_false, reduceCtorEq, Nat.reduceBEq, Nat.succ_ne_self, uu f10b12.eq_1, vv f10r13.eq_1, uu f10b14.eq_1, uu f10b15.eq_1]
         refine Next.intro (i + 1) rfl rfl ⟨by omega, by omega, ?_⟩ (by omega)
         rw [List.take_add_one, List.getElem?_eq_getElem hlt, List.all_append, hd]
         simp only [Option.toList_some, List.all_cons, List.all_nil, Bool.and_true, Bool.true_and, okL, hlenok, hs]
   · have c2 : ¬ (i : Int) < 10 := by omega
     simp only [c1, c2, yA, Qs, if_true, List.nodup_nil, Nat.reduceBEq, vv f10r1.eq_1, uu f10b2.eq_1, uu f10b28.eq_1, vv f10r29.eq_1, uu f10b30.eq_1, uu f10b31.eq_1]
     exact fin2 (fun g => hlt5 g.2)
 · have c1 : ¬ (i : Int) < l.length := by omega
   simp only [c1, yA, Qs, if_true, List.nodup_nil, Nat.reduceBEq, vv f10r1.eq_1, uu f10b2.eq_1, uu f10b28.eq_1, vv f10r29.eq_1, uu f10b30.eq_1, uu f10b31.eq_1]
   exact fin2 (fun g => hlt g.1)
theorem znY (d : Disk) (h : Wrong d) : Spec Tryz.prog 84 [dV d] (fun r => r = .int .i64 1) := by
 refine Spec.of_awlS hf84 okf84 (by simp) fun S hS => ?_
 have c71 := zim d h
 obtain ⟨secs, pend, left, down⟩ := d
 simp only [zI, y7, xC, dV, zD] at *
 simp only [zA, zB, Qs, if_true, Nat.reduceAdd, Nat.reduceBEq, uu f84.eq_1, vv f84r6.eq_1, uu f84b7.eq_1, uu f84b8.eq_1, vv f84r9.eq_1, uu f84b10.eq_1]
 refine zJ c71 ?_
 simp only [zA, zB, Qs, List.nodup_nil, vv f84r3.eq_1, uu f84b4.eq_1, uu f84b5.eq_1]
 exact hS
theorem znZ (d : Disk) (h : Wrong d) : Spec Tryz.prog 58 [dV d] (fun r => r = .int .i64 1) := by
 refine Spec.of_awlS hf58 okf58 (by simp) fun S hS => ?_
 have c84 := znY d h
 obtain ⟨secs, pend, left, down⟩ := d
 simp only [zI, y7, xC, dV, zD] at *
 simp only [zA, zB, Qs, if_true, Nat.reduceAdd, Nat.reduceBEq, uu f58.eq_1, vv f58r16.eq_1, uu f58b17.eq_1, uu f58b18.eq_1, uu f58b19.eq_1, vv f58r20.eq_1, uu f58b21.eq_1]
 refine zJ c84 ?_
 simp only [zA, zB, Qs, if_true, List.nodup_nil, Int.reduceBNe, vv f58r3.eq_1, uu f58b4.eq_1, uu f58b15.eq_1]
 exact hS
theorem zn0 (d : Disk) (h : Wrong d) : Spec Tryz.prog 43 [dV d] (fun r => r = .int .i64 1) := by
 refine Spec.of_awlS hf43 okf43 (by simp) fun S hS => ?_
 have c42 := zin d h
 obtain ⟨secs, pend, left, down⟩ := d
 simp only [zI, y7, xC, dV, zD] at *
 simp only [zA, zB, Qs, if_true, Nat.reduceAdd, Nat.reduceBEq, uu f43.eq_1, vv f43r21.eq_1, uu f43b22.eq_1, vv f43r23.eq_1, uu f43b24.eq_1]
 refine zJ c42 ?_
 simp only [zA, zB, Qs, if_true, List.nodup_nil, Nat.reduceBEq, Int.reduceBNe, vv f43r15.eq_1, uu f43b16.eq_1, uu f43b17.eq_1, vv f43r18.eq_1, uu f43b19.eq_1, uu f43b20.eq_1]
 exact hS
theorem zn1 (d : Disk) (h : Wrong d) : Spec Tryz.prog 66 [dV d] (fun r => r = y7 (⟨[], [], 0⟩, 1)) := by
 refine Spec.of_awlP hf66 okf66 (by simp) fun S hS => ?_
 have c58 := znZ d h
 obtain ⟨secs, pend, left, down⟩ := d
 simp only [zI, y7, xC, dV, zD] at *
 simp only [zA, zB, Qs, if_true, bne_iff_ne, ne_eq, Nat.reduceAdd, Nat.reduceEqDiff, Nat.reduceBEq, uu f66.eq_1, vv f66r54.eq_1, uu f66b55.eq_1, uu f66b56.eq_1, vv f66r57.eq_1, uu f66b58.eq_1]
 refine zJ c58 ?_
 simp only [zA, zB, Qs, if_true, List.append_nil, List.nodup_nil, Nat.reduceAdd, Nat.reduceLT, Nat.reduceBEq, Int.reduceBNe, vv f66r49.eq_1, uu f66b50.eq_1, uu f66b51.eq_1, vv f66r52.eq_1, uu f66b53.eq_1]
 exact vQ hS (l := []) rfl rfl
theorem zip (d : Disk) (h : Wrong d) : Spec Tryz.prog 35 [dV d] (fun r => r = .tup [lst 1 (strs []), .int .i64 1]) := by
 refine Spec.of_awlS hf35 okf35 (by simp) fun S hS => ?_
 have c66 := zn1 d h
 obtain ⟨secs, pend, left, down⟩ := d
 simp only [zI, y7, xC, dV, zD] at *
 simp only [zA, zB, Qs, if_true, bne_iff_ne, ne_eq, Nat.reduceAdd, Nat.reduceEqDiff, Nat.reduceBEq, uu f35.eq_1, vv f35r3.eq_1, uu f35b4.eq_1, vv f35r5.eq_1, uu f35b6.eq_1]
 refine zT c66 ?_
 simp only [zA, zB, Qs, if_true, if_false, bne_iff_ne, ne_eq, List.append_nil, List.nodup_nil, Nat.reduceAdd, Nat.reduceMul, Nat.reduceEqDiff, Nat.reduceLeDiff, Nat.reduceBEq, vv f35r1.eq_1, uu f35b2.eq_1]
 exact hS
theorem zn2 (d : Disk) (h : Wrong d) : Spec Tryz.prog 18 [dV d] (fun r => r = .tup [lst 1 (strs []), .int .i64 1]) := by
 refine Spec.of_awlS hf18 okf18 (by simp) fun S hS => ?_
 have c35 := zip d h
 obtain ⟨secs, pend, left, down⟩ := d
 simp only [zI, y7, xC, dV, zD] at *
 simp only [zA, zB, Qs, if_true, bne_iff_ne, ne_eq, Nat.reduceAdd, Nat.reduceEqDiff, Nat.reduceBEq, uu f18.eq_1, vv f18r1.eq_1, uu f18b2.eq_1, vv f18r3.eq_1, uu f18b4.eq_1]
 refine zT c35 ?_
 simp only [zA, zB, Qs, List.append_nil, List.nodup_nil, Nat.reduceAdd, Nat.reduceMul, Nat.reduceBEq]
 exact hS
theorem zn3 (d : Disk) (h : Wrong d) : Spec Tryz.prog 41 [dV d] (fun r => r = zI (y5, 1)) := by
 refine Spec.of_awlP hf41 okf41 (by simp) fun S hS => ?_
 have c71 := zim d h
 obtain ⟨secs, pend, left, down⟩ := d
 simp only [zI, y7, xC, dV, zD] at *
 simp only [zA, zB, Qs, if_true, bne_iff_ne, ne_eq, Nat.reduceAdd, Nat.reduceEqDiff, Nat.reduceBEq, uu f41.eq_1, vv f41r16.eq_1, uu f41b17.eq_1, uu f41b18.eq_1, vv f41r19.eq_1, uu f41b20.eq_1]
 refine zJ c71 ?_
 simp only [zA, zB, Qs, if_true, List.append_nil, List.nodup_nil, Nat.reduceAdd, Nat.reduceLT, Nat.reduceBEq, vv f41r13.eq_1, uu f41b14.eq_1, uu f41b15.eq_1]
 exact zS hS (secs := []) (pend := []) rfl rfl rfl
theorem zn4 (d : Disk) (h : Wrong d) : Spec Tryz.prog 16 [dV d] (fun r => r = zI (y5, 1)) := by
 refine Spec.of_awlP hf16 okf16 (by simp) fun S hS => ?_
 have c41 := zn3 d h
 obtain ⟨secs, pend, left, down⟩ := d
 simp only [zI, y7, xC, dV, zD] at *
 simp only [zA, zB, Qs, if_true, bne_iff_ne, ne_eq, Nat.reduceAdd, Nat.reduceEqDiff, Nat.reduceBEq, uu f16.eq_1, vv f16r1.eq_1, uu f16b2.eq_1, vv f16r3.eq_1, uu f16b4.eq_1]
 refine zT c41 ?_
 simp only [zA, zB, Qs, if_true, List.append_nil, List.nodup_nil, Nat.reduceAdd, Nat.reduceMul, Nat.reduceLT, Nat.reduceBEq]
 exact zS hS (secs := []) (pend := []) rfl rfl rfl
theorem zn5 (d : Disk) (h : Wrong d) : Spec Tryz.prog 17 [dV d] (fun r => r = zI (y5, 1)) := by
 refine Spec.of_awlP hf17 okf17 (by simp) fun S hS => ?_
 have c42 := zin d h
 obtain ⟨secs, pend, left, down⟩ := d
 simp only [zI, y7, xC, dV, zD] at *
 simp only [zA, zB, Qs, if_true, bne_iff_ne, ne_eq, Nat.reduceAdd, Nat.reduceEqDiff, Nat.reduceBEq, uu f17.eq_1, vv f17r14.eq_1, uu f17b15.eq_1, uu f17b16.eq_1, vv f17r17.eq_1, uu f17b18.eq_1]
 refine zJ c42 ?_
 simp only [zA, zB, Qs, if_true, List.append_nil, List.nodup_nil, Nat.reduceAdd, Nat.reduceLT, Nat.reduceBEq, Int.reduceBNe, vv f17r11.eq_1, uu f17b12.eq_1, uu f17b13.eq_1]
 exact zS hS (secs := []) (pend := []) rfl rfl rfl
theorem ziq (d : Disk) (h : Wrong d) : Spec Tryz.prog 19 [dV d] (fun r => r = .tup [lst 1 (strs []), .int .i64 1]) := by
 refine Spec.of_awlP hf19 okf19 (by simp) fun S hS => ?_
 have c43 := zn0 d h
 obtain ⟨secs, pend, left, down⟩ := d
 simp only [zI, y7, xC, dV, zD] at *
 simp only [zA, zB, Qs, if_true, bne_iff_ne, ne_eq, Nat.reduceAdd, Nat.reduceEqDiff, Nat.reduceBEq, uu f19.eq_1, vv f19r54.eq_1, uu f19b55.eq_1, vv f19r56.eq_1, uu f19b57.eq_1]
 refine zJ c43 ?_
 simp only [zA, zB, Qs, if_true, bne_iff_ne, ne_eq, BEq.rfl, List.append_nil, List.nodup_nil, List.nodup_cons, Nat.reduceEqDiff, Nat.reduceBEq, Int.reduceBNe, List.not_mem_nil, vv f19r48.eq_1, uu f19b49.eq_1, uu f19b50.eq_1, vv f19r51.eq_1, uu f19b52.eq_1, uu f19b53.eq_1]
 exact uT hS (l := []) rfl rfl rfl
theorem zir (d : Disk) (h : Wrong d) (s : Txt) : Spec Tryz.prog 14 [dV d, .str s] (fun r => r = zI (y5, 1)) := by
 refine Spec.of_awlP hf14 okf14 (by simp) fun S hS => ?_
 have c35 := zip d h
 obtain ⟨secs, pend, left, down⟩ := d
 simp only [zI, y7, xC, dV, zD] at *
 simp only [zA, zB, Qs, if_true, bne_iff_ne, ne_eq, Nat.reduceAdd, Nat.reduceEqDiff, Nat.reduceBEq, uu f14.eq_1, vv f14r17.eq_1, uu f14b18.eq_1, vv f14r19.eq_1, uu f14b20.eq_1]
 refine zT c35 ?_
 simp only [zA, zB, Qs, if_true, List.append_nil, List.nodup_nil, Nat.reduceAdd, Nat.reduceMul, Nat.reduceLT, Nat.reduceBEq, Int.reduceBNe, vv f14r11.eq_1, uu f14b12.eq_1, uu f14b13.eq_1, vv f14r14.eq_1, uu f14b15.eq_1, uu f14b16.eq_1]
 exact zS hS (secs := []) (pend := []) rfl rfl rfl
theorem zis (d : Disk) (h : Wrong d) (s : Txt) : Spec Tryz.prog 15 [dV d, .str s] (fun r => r = zI (y5, 1)) := by
 refine Spec.of_awlP hf15 okf15 (by simp) fun S hS => ?_
 have c19 := ziq d h
 obtain ⟨secs, pend, left, down⟩ := d
 simp only [zI, y7, xC, dV, zD] at *
 simp only [zA, zB, Qs, if_true, bne_iff_ne, ne_eq, Nat.reduceAdd, Nat.reduceEqDiff, Nat.reduceBEq, uu f15.eq_1, vv f15r15.eq_1, uu f15b16.eq_1, vv f15r17.eq_1, uu f15b18.eq_1]
 refine zT c19 ?_
 simp only [zA, zB, Qs, if_true, List.append_nil, List.nodup_nil, Nat.reduceAdd, Nat.reduceMul, Nat.reduceLT, Nat.reduceBEq, Int.reduceBNe, vv f15r9.eq_1, uu f15b10.eq_1, uu f15b11.eq_1, vv f15r12.eq_1, uu f15b13.eq_1, uu f15b14.eq_1]
 exact zS hS (secs := []) (pend := []) rfl rfl rfl
theorem zn6 (d : Disk) (h : Wrong d) (l : List Txt) : Spec Tryz.prog 25 [dV d, lst 1 (strs l)] (fun r => r = xC ((d, 0), if l = [] then 0 else 1)) := by
 refine Spec.of_awlP hf25 okf25 (by simp) fun S hS => ?_
 simp only [dV, zD, strs_len, zA, zB, Qs, bne_iff_ne, ne_eq, Nat.reduceAdd, Nat.reduceEqDiff, Nat.reduceBEq, uu f25.eq_1, uu f25b32.eq_1, vv f25r33.eq_1, uu f25b34.eq_1, uu f25b35.eq_1, vv f25r36.eq_1, uu f25b37.eq_1, vv f25r38.eq_1, uu f25b39.eq_1]
 rw [zgS]
 refine zU (fun _ : Unit => [(2, .k (.ptr 2 0)), (4, .k (.ptr 4 0)), (7, .int .i64 0), (12, lst 1 (strs l)), (13, .int .i64 l.length), (14, .int .i64 0)])
   (fun _ => [(2, yN d.secs d.pend d.left d.down), (4, .var 25 [.c (.list 0 (some true) []), .c (.list 0 (some true) []), .c (.int .i64 0), .c (.bool false)])])
   (fun _ => True) (fun _ => 0) () rfl rfl trivial ?_
 intro _ _
 by_cases hl : l = []
 · subst hl
   have c1 : ¬ (0 : Int) < (([] : List Txt).length : Int) := by decide
   rw [if_pos rfl] at hS
   simp only [c1, strs_len, zA, zB, Qs, if_true, List.append_nil, List.nodup_nil, Nat.reduceAdd, Nat.reduceLT, Nat.reduceBEq, Int.reduceLT, vv f25r1.eq_1, uu f25b2.eq_1, uu f25b27.eq_1, uu f25b28.eq_1, vv f25r29.eq_1, uu f25b30.eq_1]
   exact wW hS (yR _) (yJ _) (n := 0) rfl rfl
 · rw [if_neg hl] at hS
   have hlt : 0 < l.length := List.length_pos_iff.2 hl
   have c1 : (0 : Int) < (l.length : Int) := by omega
   have cT := zir d h l[0]
   have a0 := zX hlt
   have t0 : (0 : Int).toNat = 0 := rfl
   simp only [zI, dV, zD] at cT
   simp only [c1, t0, strs_len, a0, zA, zB, Qs, if_true, Nat.reduceAdd, Nat.reduceBEq, Int.reduceLE, vv f25r3.eq_1, vv f25r21.eq_1, uu f25b22.eq_1, vv f25r23.eq_1, uu f25b24.eq_1, uu f25b25.eq_1, uu f25b26.eq_1, uu f25b27.eq_1, uu f25b28.eq_1, vv f25r29.eq_1, uu f25b30.eq_1]
   refine zT cT ?_
   simp only [zI, dV, zD, strs_len, zA, zB, Qs, if_true, bne_iff_ne, ne_eq, List.append_nil, List.nodup_nil, Nat.reduceAdd, Nat.reduceMul, Nat.reduceEqDiff, Nat.reduceLT, Nat.reduceBEq, Int.reduceBEq, Int.reduceBNe, vv f25r9.eq_1, uu f25b10.eq_1, uu f25b11.eq_1, vv f25r12.eq_1, uu f25b13.eq_1, uu f25b14.eq_1, vv f25r15.eq_1, uu f25b16.eq_1, uu f25b17.eq_1, vv f25r18.eq_1, uu f25b19.eq_1, uu f25b20.eq_1]
   exact wW hS (yR _) (yJ _) (n := 0) rfl rfl
theorem zn7 (d : Disk) (h : Wrong d) (l : List Txt) : Spec Tryz.prog 26 [dV d, lst 1 (strs l)] (fun r => r = xC ((d, 0), if l = [] then 0 else 1)) := by
 refine Spec.of_awlP hf26 okf26 (by simp) fun S hS => ?_
 simp only [dV, zD, strs_len, zA, zB, Qs, bne_iff_ne, ne_eq, Nat.reduceAdd, Nat.reduceEqDiff, Nat.reduceBEq, uu f26.eq_1, uu f26b30.eq_1, vv f26r31.eq_1, uu f26b32.eq_1, uu f26b33.eq_1, vv f26r34.eq_1, uu f26b35.eq_1, vv f26r36.eq_1, uu f26b37.eq_1]
 rw [zgU]
 refine zU (fun _ : Unit => [(1, lst 1 (strs l)), (2, .k (.ptr 2 0)), (4, .k (.ptr 4 0)), (7, .int .i64 0), (8, .int .i64 0)])
   (fun _ => [(2, yN d.secs d.pend d.left d.down), (4, .var 25 [.c (.list 0 (some true) []), .c (.list 0 (some true) []), .c (.int .i64 0), .c (.bool false)])])
   (fun _ => True) (fun _ => 0) () rfl rfl trivial ?_
 intro _ _
 by_cases hl : l = []
 · subst hl
   have c1 : ¬ (0 : Int) < (([] : List Txt).length : Int) := by decide
   rw [if_pos rfl] at hS
   simp only [c1, strs_len, zA, zB, Qs, if_true, List.append_nil, List.nodup_nil, Nat.reduceAdd, Nat.reduceLT, Nat.reduceBEq, Int.reduceLT, vv f26r1.eq_1, uu f26b2.eq_1, uu f26b25.eq_1, vv f26r26.eq_1, uu f26b27.eq_1, uu f26b28.eq_1]
   exact wW hS (yR _) (yJ _) (n := 0) rfl rfl
 · rw [if_neg hl] at hS
   have hlt : 0 < l.length := List.length_pos_iff.2 hl
   have c1 : (0 : Int) < (l.length : Int) := by omega
   have cT := zis d h l[0]
   have a0 := zX hlt
   have t0 : (0 : Int).toNat = 0 := rfl
   simp only [zI, dV, zD] at cT
   simp only [c1, t0, strs_len, a0, zA, zB, Qs, oY, if_true, bne_iff_ne, ne_eq, Nat.reduceAdd, Nat.reduceEqDiff, Nat.reduceBEq, Int.reduceLE, vv f26r3.eq_1, vv f26r21o0.eq_1, vv f26r21o1.eq_1, vv f26r21o2.eq_1, vv f26r21o3.eq_1, vv f26r21o4.eq_1, vv f26r21o5.eq_1, vv f26r21o6.eq_1, vv f26r21o7.eq_1, vv f26r21o8.eq_1, vv f26r21o9.eq_1, vv f26r21o10.eq_1, vv f26r21o11.eq_1, zgT, uu f26b22.eq_1, uu f26b23.eq_1, uu f26b24.eq_1, uu f26b25.eq_1, vv f26r26.eq_1, uu f26b27.eq_1, uu f26b28.eq_1]
   refine uE cT ?_ rfl (by simp [zH, V.norm, C.normRow, dV, zD, z6, xK, zA, zB]) rfl
   simp only [zI, dV, zD, strs_len, zA, zB, Qs, if_true, List.append_nil, List.nodup_nil, Nat.reduceAdd, Nat.reduceLT, Nat.reduceBEq, Int.reduceBEq, Int.reduceBNe, vv f26r7.eq_1, uu f26b8.eq_1, uu f26b11.eq_1, vv f26r12.eq_1, uu f26b13.eq_1, uu f26b14.eq_1, uu f26b15.eq_1, vv f26r16.eq_1, uu f26b17.eq_1, uu f26b18.eq_1, vv f26r19.eq_1, uu f26b20.eq_1]
   exact wW hS (yR _) (yJ _) (n := 0) rfl rfl
def vT (s : Txt) : Bool := decide ((s.length : Int) ≤ 40)
def pH (d : Disk) : Bool := decide ((d.secs.length : Int) ≤ 60) && (decide ((d.pend.length : Int) ≤ 60) && (d.secs.all vT && d.pend.all fun w => vT w.text))
theorem v9 (d : Disk) : Spec Tryz.prog 9 [dV d] (fun r => r = .bool (pH d)) := by
 refine Spec.of_awlS hf9 okf9 (by simp) fun S hS => ?_
 obtain ⟨secs, pend, left, down⟩ := d
 unfold pH at hS
 simp only [] at hS
 simp only [dV, zD, strs_len, zL, Qs, Nat.reduceBEq, uu f9.eq_1, uu f9b33.eq_1, vv f9r34.eq_1, uu f9b35.eq_1, uu f9b36.eq_1, vv f9r37.eq_1, uu f9b38.eq_1]
 rw [zlb]
 refine zU (fun i : Nat => [(1, .k (.ptr 1 0)), (3, .int .i64 i)]) (fun _ => [(1, yN secs pend left down)])
   (fun i => i ≤ secs.length ∧ i ≤ 80 ∧ (secs.take i).all vT = true) (fun i => secs.length - i) 0 rfl rfl ⟨Nat.zero_le _, by omega, rfl⟩ ?_
 rintro i ⟨hi, h80, hd⟩
 by_cases hgo : i < secs.length ∧ i < 80
 · obtain ⟨hlt, hlt8⟩ := hgo
   have c1 : (i : Int) < secs.length := by omega
   have c2 : (i : Int) < 80 := by omega
   have c4 : IntKind.i64.wrap ((i : Int) + 1) = (i : Int) + 1 := wrap_in (by omega) (by omega)
   by_cases c5 : (secs[i].length : Int) > 40
   · simp only [strs_len, c1, c2, c4, c5, zX hlt, Qs, if_true, if_false, List.nodup_nil, Nat.reduceAdd, Nat.reduceLeDiff, Nat.reduceBEq, vv f9r20.eq_1, vv f9r21.eq_1, uu f9b22.eq_1, uu f9b23.eq_1, vv f9r24.eq_1, uu f9b25.eq_1, uu f9b26.eq_1, uu f9b27.eq_1, uu f9b28.eq_1, vv f9r29.eq_1, uu f9b30.eq_1, uu f9b31.eq_1]
     refine fin hS ?_
     have : secs.all vT = false := List.all_eq_false.2 ⟨secs[i], List.getElem_mem hlt, by simp [vT]; omega⟩
     rw [this]; simp
   · simp only [strs_len, c1, c2, c4, c5, zX hlt, Qs, if_true, if_false, Nat.reduceAdd, Nat.reduceLeDiff, Nat.reduceBEq, vv f9r20.eq_1, uu f9b23.eq_1, vv f9r24.eq_1, uu f9b25.eq_1, uu f9b26.eq_1, uu f9b27.eq_1, uu f9b28.eq_1, vv f9r29.eq_1, uu f9b30.eq_1, uu f9b31.eq_1]
     refine Next.intro (i + 1) rfl rfl ⟨by omega, by omega, ?_⟩ (by omega)
     rw [List.take_succ_eq_append_getElem hlt, List.all_append, hd]
     simp [vT]; omega
 · have hfull : secs.length ≤ 60 → secs.all vT = true := by
     intro h60
     obtain rfl : i = secs.length := by omega
     rw [List.take_length] at hd
     exact hd
   have hor : (¬ (i : Int) < secs.length) ∨ ((i : Int) < secs.length ∧ ¬ (i : Int) < 80) := by omega
   rcases hor with c1 | ⟨c1, c2⟩
   all_goals
     simp only [*, strs_len, Qs, if_true, if_false, Nat.reduceAdd, Nat.reduceLeDiff, Nat.reduceBEq, uu f9b16.eq_1, vv f9r17.eq_1, uu f9b18.eq_1, uu f9b19.eq_1, uu f9b28.eq_1, vv f9r29.eq_1, uu f9b30.eq_1, uu f9b31.eq_1]
     rw [zla]
     refine zU (fun k : Nat => [(1, .k (.ptr 1 0)), (4, .int .i64 k)]) (fun _ => [(1, yN secs pend left down)])
       (fun k => k ≤ pend.length ∧ k ≤ 80 ∧ (pend.take k).all (fun w => vT w.text) = true) (fun k => pend.length - k) 0 rfl rfl ⟨Nat.zero_le _, by omega, rfl⟩ ?_
     rintro k ⟨hk, hk80, hp⟩
     have fin2 : ¬ (k < pend.length ∧ k < 80) → (secs.length : Int) ≤ 60 → S (.bool (decide ((pend.length : Int) ≤ 60))) := by
       intro hno h60
       refine fin hS ?_
       rw [decide_eq_true h60, hfull (by omega)]
       by_cases h3 : (pend.length : Int) ≤ 60
       · obtain rfl : k = pend.length := by omega
         rw [List.take_length] at hp
         rw [decide_eq_true h3, hp]; rfl
       · rw [decide_eq_false h3]; simp
     have fin3 : ¬ (secs.length : Int) ≤ 60 → S (.bool false) := by
       intro h60
       refine fin hS ?_
       rw [decide_eq_false h60]; simp
     by_cases hlt : k < pend.length
     · have d1 : (k : Int) < pend.length := by omega
       by_cases hlt8 : k < 80
       · have d2 : (k : Int) < 80 := by omega
         have d4 : IntKind.i64.wrap ((k : Int) + 1) = (k : Int) + 1 := wrap_in (by omega) (by omega)
         by_cases d5 : (pend[k].text.length : Int) > 40
         · simp only [zL, d1, d2, d4, d5, xP hlt, Qs, kS, kX, if_true, if_false, List.nodup_nil, Nat.reduceAdd, Nat.reduceLeDiff, Nat.reduceBEq, vv f9r3.eq_1, vv f9r4.eq_1, uu f9b5.eq_1, uu f9b6.eq_1, vv f9r7.eq_1, uu f9b8.eq_1, uu f9b9.eq_1, uu f9b10.eq_1, uu f9b11.eq_1, vv f9r12.eq_1, uu f9b13.eq_1, uu f9b14.eq_1]
           refine fin hS ?_
           have : (pend.all fun w => vT w.text) = false := List.all_eq_false.2 ⟨pend[k], List.getElem_mem hlt, by simp [vT]; omega⟩
           rw [this]; simp
         · simp only [zL, d1, d2, d4, d5, xP hlt, Qs, kS, kX, if_true, if_false, Nat.reduceAdd, Nat.reduceLeDiff, Nat.reduceBEq, vv f9r3.eq_1, uu f9b6.eq_1, vv f9r7.eq_1, uu f9b8.eq_1, uu f9b9.eq_1, uu f9b10.eq_1, uu f9b11.eq_1, vv f9r12.eq_1, uu f9b13.eq_1, uu f9b14.eq_1]
           refine Next.intro (k + 1) rfl rfl ⟨by omega, by omega, ?_⟩ (by omega)
           rw [List.take_succ_eq_append_getElem hlt, List.all_append, hp]
           simp [vT]; omega
       · have d2 : ¬ (k : Int) < 80 := by omega
         by_cases h60 : (secs.length : Int) ≤ 60
         · simp only [zL, strs_len, d1, d2, h60, Qs, if_true, if_false, List.nodup_nil, Nat.reduceAdd, Nat.reduceLeDiff, Nat.reduceBEq, vv f9r1.eq_1, uu f9b2.eq_1, uu f9b11.eq_1, vv f9r12.eq_1, uu f9b13.eq_1, uu f9b14.eq_1]
           exact fin2 (fun g => hlt8 g.2) h60
         · simp only [zL, strs_len, d1, d2, h60, Qs, if_true, if_false, List.nodup_nil, Nat.reduceAdd, Nat.reduceLeDiff, Nat.reduceBEq, vv f9r1.eq_1, uu f9b2.eq_1, uu f9b11.eq_1, vv f9r12.eq_1, uu f9b13.eq_1, uu f9b14.eq_1]
           exact fin3 h60
     · have d1 : ¬ (k : Int) < pend.length := by omega
       by_cases h60 : (secs.length : Int) ≤ 60
       · simp only [zL, strs_len, d1, h60, Qs, if_true, if_false, List.nodup_nil, Nat.reduceAdd, Nat.reduceLeDiff, Nat.reduceBEq, vv f9r1.eq_1, uu f9b2.eq_1, uu f9b11.eq_1, vv f9r12.eq_1, uu f9b13.eq_1, uu f9b14.eq_1]
         exact fin2 (fun g => hlt g.1) h60
       · simp only [zL, strs_len, d1, h60, Qs, if_true, if_false, List.nodup_nil, Nat.reduceAdd, Nat.reduceLeDiff, Nat.reduceBEq, vv f9r1.eq_1, uu f9b2.eq_1, uu f9b11.eq_1, vv f9r12.eq_1, uu f9b13.eq_1, uu f9b14.eq_1]
         exact fin3 h60
def r5 (D : Disk) : Prop := D.secs.length ≤ 512 ∧ D.pend.length ≤ 512
theorem iN : ∀ (l : List Txt) {d : Disk} {n : Nat}, Right d → r5 (xD d l n).1.1
 | [], d, n, h => ⟨h.hi, h.pe⟩
 | s :: l, d, n, h => by
   have hL := nZ h s
   rw [xD]
   split
   · rename_i h0; exact iN l (hL.good (.inl h0))
   · split
     · exact iN l h
     · split
       · exact hL.small
       · exact ⟨h.hi, h.pe⟩
theorem zit (n : Int) : r5 (newR n).1 := by
 unfold newR
 by_cases h : (newX n).2 = 0
 · rw [if_neg (by simp [h])]
   exact (zng (iI h)).small
 · rw [if_pos h]; exact ⟨by simp [y5], by simp [y5]⟩
structure Told (d : Disk) (s : Txt) (l : List Txt) : Prop where
 take : ∃ X : Disk × Int, Spec Tryz.prog 14 [dV d, .str s] (fun r => r = zI X) ∧ Spec Tryz.prog 15 [dV d, .str s] (fun r => r = zI X) ∧ r5 X.1
 start : ∃ X : Disk × Int, Spec Tryz.prog 16 [dV d] (fun r => r = zI X) ∧ Spec Tryz.prog 17 [dV d] (fun r => r = zI X) ∧ r5 X.1
 all : ∃ (m : List Txt) (e : Int), Spec Tryz.prog 18 [dV d] (fun r => r = .tup [lst 1 (strs m), .int .i64 e]) ∧ Spec Tryz.prog 19 [dV d] (fun r => r = .tup [lst 1 (strs m), .int .i64 e])
 rep : ∃ Y : (Disk × Nat) × Int, Spec Tryz.prog 25 [dV d, lst 1 (strs l)] (fun r => r = xC Y) ∧ Spec Tryz.prog 26 [dV d, lst 1 (strs l)] (fun r => r = xC Y) ∧ r5 Y.1.1
theorem zn8 {d : Disk} (h : pH d = true) {s : Txt} (hs : s.length ≤ 100) {l : List Txt} (hl : l.length ≤ 1000) (hl2 : ∀ s ∈ l, s.length ≤ 60) : Told d s l := by
 unfold pH at h
 simp only [Bool.and_eq_true, decide_eq_true_eq] at h
 by_cases hR : Right d
 · exact ⟨⟨_, v14 d hR s (by omega), v15 d hR s (by omega), (nZ hR s).small⟩, ⟨_, v16 d hR, r26 d hR, (znf hR).small⟩, ⟨_, _, v18 d hR, z16 d hR⟩,
     ⟨_, v25 d hR l (by omega) (fun x hx => by have := hl2 x hx; omega), v26 d hR l (by omega) (fun x hx => by have := hl2 x hx; omega), iN l hR⟩⟩
 · have w : Wrong d := ⟨by omega, by omega, hR⟩
   have hz : r5 y5 := ⟨by decide, by decide⟩
   exact ⟨⟨_, zir d w s, zis d w s, hz⟩, ⟨_, zn4 d w, zn5 d w, hz⟩, ⟨_, _, zn2 d w, ziq d w⟩, ⟨_, zn6 d w l, zn7 d w l, by have := w.hi; have := w.pe; exact ⟨by show d.secs.length ≤ _; omega, by show d.pend.length ≤ _; omega⟩⟩⟩
theorem l3 (d : Disk) (s : Txt) (logs : List (List Txt)) (i : Int) : Spec Tryz.prog 3 [dV d, .str s, lst 1 (lls logs), .int .i64 i] (fun r => r = .bool true) := by
 refine Spec.of_awlS hf3 okf3 (by simp) fun S hS => ?_
 have c9 := v9 d
 simp only [dV, zD] at c9
 simp only [dV, zD, zW, zA, zB, Qs, Nat.reduceAdd, Nat.reduceBEq, uu f3.eq_1, vv f3r65.eq_1, uu f3b66.eq_1, vv f3r67.eq_1, uu f3b68.eq_1]
 refine zJ l8 ?_
 simp only [zW, zA, zB, Qs, if_true, Nat.reduceAdd, Nat.reduceBEq, vv f3r62.eq_1, uu f3b63.eq_1, uu f3b64.eq_1]
 refine zJ c9 ?_
 cases hsm : pH d with
 | false =>
   simp only [zW, zA, zB, Qs, List.nodup_nil, Nat.reduceBEq, vv f3r59.eq_1, uu f3b60.eq_1, uu f3b61.eq_1]
   exact hS
 | true =>
   by_cases h100 : (s.length : Int) > 100
   · simp only [h100, zW, zA, zB, Qs, if_true, if_false, List.nodup_nil, Nat.reduceBEq, vv f3r59.eq_1, uu f3b60.eq_1, uu f3b61.eq_1]
     exact hS
   have c10 := v10 logs
   simp only [h100, zW, zA, zB, Qs, if_true, if_false, Nat.reduceBEq]
   refine zJ c10 ?_ (ha := by simp [zH, yI, lookO, V.norm, z6, lst, zW])
   cases hf : tP logs with
   | false =>
     simp only [zW, zA, zB, Qs, if_false, List.nodup_nil, Nat.reduceBEq, vv f3r59.eq_1, uu f3b60.eq_1, uu f3b61.eq_1]
     exact hS
   | true =>
     obtain ⟨f5, f6⟩ := znX hf
     by_cases hi : i > 60 ∧ i ≤ 512
     · obtain ⟨i1, i2⟩ := hi
       simp only [i1, i2, zW, zA, zB, Qs, if_true, if_false, List.nodup_nil, Nat.reduceBEq, vv f3r59.eq_1, uu f3b60.eq_1, uu f3b61.eq_1]
       exact hS
     have hor : ¬ i > 60 ∨ (i > 60 ∧ ¬ i ≤ 512) := by omega
     have c11 := v11 i
     have c12 := v12 i
     have cn := z10 (newR i).1 (zit i).1 (zit i).2
     generalize newR i = X0 at c11 c12 cn
     obtain ⟨⟨s0, p0, l0, d0⟩, e0⟩ := X0
     obtain ⟨⟨X1, t1, t2, t3⟩, ⟨X2, u1, u2, u3⟩, ⟨m, e, a1, a2⟩, ⟨Y, r1, r2, r3⟩⟩ := zn8 hsm (s := s) (by omega) (l := logs.getD 0 []) (by
       by_cases h : 0 < logs.length
       · exact (f6 _ (show logs.getD 0 [] ∈ logs by simp [List.getD, h])).1
       · have : logs = [] := List.length_eq_zero_iff.1 (by omega)
         subst this; simp) (by
       by_cases h : 0 < logs.length
       · exact (f6 _ (show logs.getD 0 [] ∈ logs by simp [List.getD, h])).2
       · have : logs = [] := List.length_eq_zero_iff.1 (by omega)
         subst this; simp)
     have ct := z10 X1.1 t3.1 t3.2
     have cu := z10 X2.1 u3.1 u3.2
     have cr := z10 Y.1.1 r3.1 r3.2
     obtain ⟨⟨s1, p1, l1, d1⟩, e1⟩ := X1
     obtain ⟨⟨s2, p2, l2, d2⟩, e2⟩ := X2
     obtain ⟨⟨⟨s3, p3, l3, d3⟩, n3⟩, e3⟩ := Y
     have hmax : ∀ x ∈ logs, ∀ s ∈ x, s.length ≤ maxLen := fun x hx s hs => Nat.le_trans ((f6 x hx).2 s hs) (by decide)
     have ca := znV logs hmax
     have cb := v22 logs
     rw [show (if y0 logs = true then xF logs else []) = agreeX logs from rfl] at cb
     have cl := znW logs hmax i
     have cm := v24 logs i
     have q1 := w26 m m
     have q2 := w26 (agreeX logs) (agreeX logs)
     have q3 := w26 (tN logs i) (tN logs i)
     rw [decide_eq_true rfl] at q1 q2 q3
     simp only [zI, xC, dV, zD] at *
     have ne : ∀ x : Int, (x != x) = false := fun x => by simp
     have eq : ∀ x : Int, (x == x) = true := fun x => by simp
     have hi2 : i > 60 → ¬ i ≤ 512 := by omega
     rcases hor with hi | ⟨hi, hi2⟩
     all_goals
       simp only [hi, hi2, zW, zA, zB, Qs, if_true, if_false, Nat.reduceBEq, vv f3r57.eq_1, uu f3b58.eq_1, uu f3b61.eq_1]
       refine zT c11 ?_
       simp only [zW, zA, zB, Qs, sJ, bne_iff_ne, ne_eq, List.append_nil, Nat.reduceAdd, Nat.reduceMul, Nat.reduceEqDiff, Nat.reduceBEq, vv f3r55.eq_1, uu f3b56.eq_1]
       refine zT c12 ?_
       simp only [ne, zW, zA, zB, Qs, sJ, if_true, bne_iff_ne, ne_eq, List.append_nil, Nat.reduceAdd, Nat.reduceMul, Nat.reduceEqDiff, Nat.reduceBEq, vv f3r52.eq_1, uu f3b53.eq_1, uu f3b54.eq_1]
       refine zJ cn ?_ (ha := by simp [zH, yI, lookO, V.norm, C.normRow, z6, xK, lst, zA, zB])
       simp only [ne, zW, zA, zB, Qs, if_true, if_false, Nat.reduceAdd, Nat.reduceBEq, vv f3r47.eq_1, uu f3b48.eq_1, uu f3b51.eq_1]
       refine zT t1 ?_
       simp only [ne, zW, zA, zB, Qs, if_true, List.append_nil, Nat.reduceAdd, Nat.reduceMul, Nat.reduceBEq, vv f3r45.eq_1, uu f3b46.eq_1]
       refine zT t2 ?_
       simp only [ne, zW, zA, zB, Qs, if_true, List.append_nil, Nat.reduceAdd, Nat.reduceMul, Nat.reduceBEq, vv f3r42.eq_1, uu f3b43.eq_1, uu f3b44.eq_1]
       refine zJ ct ?_ (ha := by simp [zH, yI, lookO, V.norm, C.normRow, z6, xK, lst, zA, zB])
       simp only [ne, zW, zA, zB, Qs, if_true, if_false, Nat.reduceAdd, Nat.reduceBEq, vv f3r37.eq_1, uu f3b38.eq_1, uu f3b41.eq_1]
       refine zT u1 ?_
       simp only [ne, zW, zA, zB, Qs, if_true, List.append_nil, Nat.reduceAdd, Nat.reduceMul, Nat.reduceBEq, vv f3r35.eq_1, uu f3b36.eq_1]
       refine zT u2 ?_
       simp only [ne, zW, zA, zB, Qs, if_true, List.append_nil, Nat.reduceAdd, Nat.reduceMul, Nat.reduceBEq, vv f3r32.eq_1, uu f3b33.eq_1, uu f3b34.eq_1]
       refine zJ cu ?_ (ha := by simp [zH, yI, lookO, V.norm, C.normRow, z6, xK, lst, zA, zB])
       simp only [ne, zW, zA, zB, Qs, if_true, if_false, Nat.reduceAdd, Nat.reduceBEq, vv f3r27.eq_1, uu f3b28.eq_1, uu f3b31.eq_1]
       refine zT a1 ?_
       simp only [ne, zW, zA, zB, Qs, if_true, List.append_nil, Nat.reduceAdd, Nat.reduceMul, Nat.reduceBEq, vv f3r25.eq_1, uu f3b26.eq_1]
       refine zT a2 ?_
       simp only [ne, zW, zA, zB, Qs, if_true, List.append_nil, Nat.reduceAdd, Nat.reduceMul, Nat.reduceBEq, vv f3r22.eq_1, uu f3b23.eq_1, uu f3b24.eq_1]
       refine zJ q1 ?_
       simp only [ne, zW, zA, zB, Qs, if_false, Nat.reduceBEq]
       refine tG ca ?_ (ha := by simp [zH, yI, lookO, V.norm, z6, lst, zW])
       simp only [ne, zW, zA, zB, Qs, Nat.reduceBEq]
       refine zT cb ?_ (ha := by simp [zH, yI, lookO, V.norm, z6, lst, zW])
       simp only [ne, zW, zA, zB, Qs, o8, Nat.reduceBEq]
       refine zJ q2 ?_ (ha := by simp [zH, yI, lookO, V.norm, z6, lst, zA])
       simp only [ne, zW, zA, zB, Qs, if_false, Nat.reduceBEq]
       refine tG cl ?_ (ha := by simp [zH, yI, lookO, V.norm, z6, lst, zW])
       simp only [ne, zW, zA, zB, Qs, Nat.reduceBEq]
       refine zT cm ?_ (ha := by simp [zH, yI, lookO, V.norm, z6, lst, zW])
       simp only [ne, zW, zA, zB, Qs, o8, Nat.reduceBEq]
       refine zJ q3 ?_ (ha := by simp [zH, yI, lookO, V.norm, z6, lst, zA])
       by_cases hz : logs.length = 0
       · have z1 : ((logs.length : Int) == 0) = true := by simp [hz]
         simp only [z1, yA, zW, zA, zB, Qs, if_true, if_false, List.nodup_nil, Nat.reduceBEq, vv f3r13.eq_1, uu f3b14.eq_1, uu f3b15.eq_1, vv f3r16.eq_1, uu f3b17.eq_1, uu f3b18.eq_1, uu f3b21.eq_1]
         exact hS
       · have z1 : ((logs.length : Int) == 0) = false := by rw [beq_eq_false_iff_ne]; omega
         have hlt : 0 < logs.length := by omega
         have hg : logs.getD 0 [] = logs[0] := by simp [List.getD, hlt]
         rw [hg] at r1 r2
         have z2 : (0 : Int) < (logs.length : Int) := by omega
         have z3 : (0 : Int).toNat = 0 := rfl
         have z4 := xG hlt
         by_cases h20 : (logs[0].length : Int) > 20
         · simp only [z1, z2, z3, z4, h20, yA, strs_len, zW, zA, zB, Qs, if_true, if_false, List.nodup_nil, Nat.reduceBEq, Int.reduceLE, vv f3r7.eq_1, uu f3b8.eq_1, uu f3b9.eq_1, vv f3r10.eq_1, uu f3b11.eq_1, uu f3b12.eq_1, uu f3b15.eq_1, vv f3r16.eq_1, uu f3b17.eq_1, uu f3b18.eq_1, uu f3b21.eq_1]
           exact hS
         · simp only [z1, z2, z3, z4, h20, yA, strs_len, zW, zA, zB, Qs, if_true, if_false, Nat.reduceAdd, Nat.reduceBEq, Int.reduceLE, vv f3r5o0.eq_1, vv f3r5o1.eq_1, vv f3r5o2.eq_1, vv f3r5o3.eq_1, vv f3r5o4.eq_1, vv f3r5o5.eq_1, vv f3r5o6.eq_1, vv f3r5o7.eq_1, vv f3r5o8.eq_1, vv f3r5o9.eq_1, vv f3r5o10.eq_1, vv f3r5o11.eq_1, zlO, uu f3b6.eq_1, uu f3b9.eq_1, vv f3r10.eq_1, uu f3b11.eq_1, uu f3b12.eq_1, uu f3b15.eq_1, vv f3r16.eq_1, uu f3b17.eq_1, uu f3b18.eq_1, uu f3b21.eq_1]
           refine uE r1 ?_ rfl (by simp [zH, V.norm, C.normRow, z6, xK, lst, zA, zB]) rfl
           simp only [ne, z2, z3, z4, yA, zW, zA, zB, Qs, if_true, List.append_nil, Nat.reduceAdd, Nat.reduceBEq, Int.reduceLE, vv f3r3o0.eq_1, vv f3r3o1.eq_1, vv f3r3o2.eq_1, vv f3r3o3.eq_1, vv f3r3o4.eq_1, vv f3r3o5.eq_1, vv f3r3o6.eq_1, vv f3r3o7.eq_1, vv f3r3o8.eq_1, vv f3r3o9.eq_1, vv f3r3o10.eq_1, vv f3r3o11.eq_1, zlN, uu f3b4.eq_1]
           refine uE r2 ?_ rfl (by simp [zH, V.norm, C.normRow, z6, xK, lst, zA, zB]) rfl
           simp only [ne, eq, z2, z3, z4, yA, zW, zA, zB, Qs, if_true, List.append_nil, Nat.reduceAdd, Nat.reduceBEq, vv f3r1.eq_1, uu f3b2.eq_1]
           refine zJ cr ?_ (ha := by simp [zH, yI, lookO, V.norm, C.normRow, z6, xK, lst, zA, zB])
           simp only [ne, eq, zW, zA, zB, Qs, if_true, List.nodup_nil, Nat.reduceBEq]
           exact hS
end Go.Abs
set_option maxRecDepth 100000
namespace Go.Proofs.YtnendldalcpgeaaGreatDoor
open Go.Abs Go.RowKit Go.ChangeShapes Go.WideShapes Go.ChangeAt Go.WideMaps Go.WideElems Go.Wire
theorem zn9 (xs : List V) (h : qX Tryz.prog [25, 9, 26, 3] xs) : Go.Abs.Spec Tryz.prog 3 xs (fun r => r = .bool true) := by
 match xs, h with
 | [a0, a1, a2, a3], ⟨⟨_, _, h0, q0⟩, ⟨_, _, h1, q1⟩, ⟨_, _, h2, q2⟩, ⟨_, _, h3, q3⟩, _⟩ =>
   obtain ⟨x0, e0⟩ := znO Tryz.underlying25 rfl Tryz.underlying22 Tryz.underlying23 Tryz.underlying52 rfl Tryz.underlying3 Tryz.underlying9 Tryz.underlying4 (by kernel_rfl) (by kernel_rfl) h0
   obtain ⟨x1, e1, _⟩ := znK Tryz.underlying9 h1
   obtain ⟨x2, e2⟩ := znM Tryz.underlying26 Tryz.underlying22 Tryz.underlying9 (by kernel_rfl) (by kernel_rfl) h2
   obtain ⟨x3, e3, _⟩ := znJ Tryz.underlying3 h3
   rw [q0, q1, q2, q3, e0, e1, e2, e3]
   exact l3 x0 x1 x2 x3
theorem zoa (os : Os) {H : Type} (enc : TypeId × Value → H) : ∃ pZ, DataW.whole enc Tryz.prog ((World.doorLaid Tryz.prog 400 os).forCall (fun _ _ => 0) ⟨#[], #[Value.agg #[.slice none 0 0, .slice none 0 0, .int .i64 0, .bool false], .string ⟨#[]⟩, .slice none 0 0, .int .i64 0], []⟩).memory Tryz.f3.params.toList Rows.registryTellsSpec.vars false #[Value.agg #[.slice none 0 0, .slice none 0 0, .int .i64 0, .bool false], .string ⟨#[]⟩, .slice none 0 0, .int .i64 0].toList 8 = some ([.agg [.nil, .nil, .lit (.int .i64 0), .lit (.bool false)], .lit (.string []), .nil, .lit (.int .i64 0)], [], pZ) :=
 ⟨[], by kernel_rfl⟩
theorem zob (os : Os) (started : os.Started) (H : Type) (enc : TypeId × Value → H) (F : Stop.Interp) :
   ReturnsInHanded {} Tryz.checked os 3 .any ((OpenSpec.ofChange Rows.registryTellsSpec).preRow enc Tryz.prog Tryz.f3 Rows.registryTellsRow.domain false Rows.registryTellsRow.laid) (((OpenSpec.ofChange Rows.registryTellsSpec).at F).post enc Tryz.prog Tryz.f3 false true false false) := by
 obtain ⟨pZ, hx⟩ := zoa os enc
 refine returnsInHanded_of_row (C := Tryz.checked) (s := OpenSpec.ofChange Rows.registryTellsSpec) own started (by kernel_rfl) Tryz.func3
   (witness_row_atRef (enc := enc) (C := Tryz.checked) false (World.doorLaid Tryz.prog 400 os) #[Value.agg #[.slice none 0 0, .slice none 0 0, .int .i64 0, .bool false], .string ⟨#[]⟩, .slice none 0 0, .int .i64 0] rfl (by kernel_rfl) (by kernel_rfl) (by kernel_rfl)
     (OpenSpec.preRow_of_cond 8 hx (by kernel_rfl) (fun k hk => by cases hk) (by kernel_rfl) (znS os _))) ?_
 intro W base args ds gs before hval hW _ hcond _ hL hsh _
 refine zk9 (C := Tryz.checked) (T := n9) (tb := 4) (s := Rows.registryTellsSpec) znP znQ ?_ kids full rfl ?_ ?_ Tryz.underlying4 ?_ W base args ds gs before hval hW (znR hL hsh)
 · rw [Tryz.params3]; decide
 · intro ds hds
   rw [Tryz.params3] at hds
   match ds, hds with
   | [a0, a1, a2, a3], _ => rfl
 · kernel_rfl
 · intro xs hxs
   rw [Tryz.params3] at hxs
   exact zn9 xs hxs
theorem RegistryTells_row : Rows.RegistryTellsSaid :=
 OpenClaim.holds_of_cond 3 Tryz.f3 rfl rfl rfl rfl rfl rfl rfl ⟨rfl, rfl, rfl, rfl, rfl⟩ rfl rfl rfl rfl rfl (by kernel_rfl) Tryz.func3 (by kernel_rfl)
   (of_decide_eq_true (by kernel_rfl)) (by unfold Func.isWrapper; first | (rw [if_pos (by decide +kernel)]; kernel_rfl) | (rw [if_neg (by decide +kernel)]; exact ⟨rfl, rfl⟩))
   (fun os started H enc _ F => by rw [OpenClaim.pre_eq_preRow]; exact zob os started H enc F)
theorem RegistryTells_holds : Rows.RegistryTellsCardSaid :=
 Claim7.holds_tied_plain_at .later [] _ _ _ _ RegistryTells_row (fun _ h => by cases h) (by kernel_rfl) (fun _ h => by cases h) registryTells_row_tie rfl ⟨rfl, rfl⟩ (by kernel_rfl) rfl
   (fun f fn hf hfn => by
     obtain rfl : f = 3 := Option.some.inj ((show Tryz.prog.funcNamed "allonge/allongelaw51.RegistryTells" = some 3 by kernel_rfl).symm.trans hf) |>.symm
     obtain rfl : fn = Tryz.f3 := (Option.some.inj (Tryz.func3.symm.trans hfn)).symm
     exact ⟨by kernel_rfl, fun j t ht => by
       rw [Tryz.params3] at ht
       have hm : t ∈ [25, 9, 26, 3] := by simpa using Array.mem_of_getElem? ht
       have hall : ([25, 9, 26, 3].all fun u => !Tryz.prog.wantsStandIn u) = true := by kernel_rfl
       exact (show Tryz.prog.wantsStandIn t = false by simpa using List.all_eq_true.1 hall t hm)⟩)
   (by kernel_rfl)
end Go.Proofs.YtnendldalcpgeaaGreatDoor
