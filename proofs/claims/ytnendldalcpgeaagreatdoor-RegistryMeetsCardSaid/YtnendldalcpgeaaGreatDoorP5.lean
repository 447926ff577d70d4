/- A part of the proof; the last text states what is proved. -/
import Derived.Test.YtnendldalcpgeaaGreatDoorP4
import Derived.Deep.LoopGhost
import Derived.Laws.CopyOwn
import Derived.Lib.ConvBytes
import Derived.Laws.BytesArg
import Derived.Laws.IdiomStrings
import Derived.Deep.RegionLaw
set_option linter.unusedVariables false
set_option linter.unusedSimpArgs false
set_option maxRecDepth 100000
set_option maxHeartbeats 8000000
namespace Go.Abs
open Go.Proofs Go.Wire Go.RowKit
theorem w60 (n : Nat) (h : n ≤ 16) : Spec Tryz.prog 107 [.int .u64 1, .int .u64 n] (fun r => r = .tup [.int .u64 0, .int .u64 n]) := by
  have hc : n = 0 ∨ n = 1 ∨ n = 2 ∨ n = 3 ∨ n = 4 ∨ n = 5 ∨ n = 6 ∨ n = 7 ∨ n = 8 ∨ n = 9 ∨ n = 10 ∨ n = 11 ∨ n = 12 ∨ n = 13 ∨ n = 14 ∨ n = 15 ∨ n = 16 := by omega
  refine Spec.of_awlS hf107 okf107 (by simp) fun S hS => ?_
  simp only [Qs, q_binInt_eq_2, q_cutInt_eq_12, if_true, List.append_nil, List.nodup_nil, Nat.reduceAdd, Nat.reduceBEq, Int.reduceLE, Int.reduceToNat, uu f107.eq_1, vv f107r1.eq_1, uu f107b2.eq_1, vv f107r3.eq_1, uu f107b4.eq_1, vv f107r5.eq_1, uu f107b6.eq_1, vv f107r7.eq_1, uu f107b8.eq_1, vv f107r9.eq_1, uu f107b10.eq_1, vv f107r11.eq_1, uu f107b12.eq_1, vv f107r13.eq_1, uu f107b14.eq_1, vv f107r15.eq_1, uu f107b16.eq_1, vv f107r17.eq_1, uu f107b18.eq_1, vv f107r19.eq_1, uu f107b20.eq_1, vv f107r21.eq_1, uu f107b22.eq_1, vv f107r23.eq_1, uu f107b24.eq_1]
  rcases hc with rfl | rfl | rfl | rfl | rfl | rfl | rfl | rfl | rfl | rfl | rfl | rfl | rfl | rfl | rfl | rfl | rfl <;> exact fin hS (by kernel_rfl)
theorem w51 (n : Nat) (h : n ≤ 16) : Spec Tryz.prog 78 [.int .u64 1, .int .u64 n] (fun r => r = .tup [.int .u64 0, .int .u64 n]) := by
  refine Spec.of_awlS hf78 okf78 (by simp) fun S hS => ?_
  simp only [Qs, Nat.reduceAdd, Nat.reduceBEq, q_learn_eq_2, uu f78.eq_1, vv f78r3.eq_1, uu f78b4.eq_1, uu f78b9.eq_1, uu f78b10.eq_1, vv f78r11.eq_1, uu f78b12.eq_1]
  refine call_s (w60 n h) ?_
  simp only [Qs, List.append_nil, List.nodup_nil, Nat.reduceBEq, vv f78r1.eq_1, uu f78b2.eq_1]
  exact hS
theorem w61 : Spec Tryz.prog 108 [.str (List.replicate 64 48), .str [48]] (fun r => r = .bool true) := by
  refine Spec.of_awlS hf108 okf108 (by simp) fun S hS => ?_
  simp only [Qs, q_AOp_dst_eq_19, q_binStr_eq_2, if_true, BEq.rfl, List.nodup_nil, Nat.reduceAdd, Nat.reduceBEq, Int.reduceLE, Int.reduceGE, Int.reduceToNat, uu f108.eq_1, vv f108r1.eq_1, uu f108b2.eq_1, vv f108r3.eq_1, uu f108b4.eq_1]
  exact hS
theorem w52 : Spec Tryz.prog 79 [.str (List.replicate 64 48), .str [48]] (fun r => r = .bool true) := by
  refine Spec.of_awlS hf79 okf79 (by simp) fun S hS => ?_
  simp only [Qs, Nat.reduceAdd, Nat.reduceBEq, uu f79.eq_1, vv f79r1.eq_1, uu f79b2.eq_1, vv f79r3.eq_1, uu f79b4.eq_1]
  refine call_s w61 ?_
  simp only [Qs, List.nodup_nil]
  exact hS
mutual
def valOf : V → Value
  | .k (.c (.int k n)) => .int k n
  | .k (.c (.bool b)) => .bool b
  | .k (.c (.str s)) => .string ⟨s.toArray⟩
  | .tup vs => .tuple (valsOf vs).toArray
  | _ => .nilFunc
def valsOf : List V → List Value
  | [] => []
  | v :: vs => valOf v :: valsOf vs
end
mutual
theorem valOf_rep {w : World} {Z : Bk → Prop} {κ : Kap} {o : Nat → Option O} : ∀ (x : V) (v : Value), x.scalar = true → VRep w Z κ o x v → v = valOf x
  | .k (.c (.int k n)), v, _, h => prep_int h.2
  | .k (.c (.bool b)), v, _, h => by
    have h2 : PRep w Z (.bool b) v := h.2
    cases h2; rfl
  | .k (.c (.str s)), v, _, h => prep_str h.2
  | .tup vs, v, hs, ⟨us, e, hl, h⟩ => by
    obtain ⟨l⟩ := us
    rw [e, valOf, valsOf_rep vs l hs hl h]
  | .k (.c (.list _ _ _)), _, hs, _ => by cases hs
  | .k (.c (.ro _ _)), _, hs, _ => by cases hs
  | .k (.c (.fn _ _)), _, hs, _ => by cases hs
  | .k (.c .nilf), _, hs, _ => by cases hs
  | .k (.c (.gl _)), _, hs, _ => by cases hs
  | .k (.own _), _, hs, _ => by cases hs
  | .k (.ptr _ _), _, hs, _ => by cases hs
  | .k (.elem _ _ _), _, hs, _ => by cases hs
  | .k (.pel _ _ _ _), _, hs, _ => by cases hs
  | .k (.fnk _ _), _, hs, _ => by cases hs
  | .k (.newl _ _ _ _), _, hs, _ => by cases hs
  | .k .dead, _, hs, _ => by cases hs
  | .agg _, _, hs, _ => by cases hs
  | .agk _, _, hs, _ => by cases hs
  | .undef, _, hs, _ => by cases hs
  | .any, _, hs, _ => by cases hs
theorem valsOf_rep {w : World} {Z : Bk → Prop} {κ : Kap} {o : Nat → Option O} : ∀ (xs : List V) (vs : List Value), V.scalarL xs = true → vs.length = xs.length → VRepL w Z κ o xs vs → vs = valsOf xs
  | [], [], _, _, _ => rfl
  | x :: xs, v :: vs, hs, hl, h => by
    simp only [V.scalarL, Bool.and_eq_true] at hs
    rw [valsOf, valOf_rep x v hs.1 h.1, valsOf_rep xs vs hs.2 (by simpa using hl) h.2]
  | [], _ :: _, _, hl, _ => by simp at hl
  | _ :: _, [], _, hl, _ => by simp at hl
end
def scal1 : V → Bool
  | .k (.c (.int _ _)) => true
  | .k (.c (.bool _)) => true
  | .k (.c (.str _)) => true
  | _ => false
theorem scal1_rep {w : World} {Z : Bk → Prop} {x : V} (h : scal1 x = true) : x.isPure = true ∧ VRep w Z (fun _ => none) (fun _ => none) x (valOf x) := by
  unfold scal1 at h
  split at h
  · exact ⟨rfl, rfl, .int _ _⟩
  · exact ⟨rfl, rfl, .bool _⟩
  · exact ⟨rfl, rfl, .str _⟩
  · cases h
theorem Spec.scal {P : Program} {f : FuncId} {xs : List V} {r : V} (h : Spec P f xs (fun r' => r' = r)) (hx : xs.all scal1 = true) (hr : r.scalar = true) {W : World} (hG : GlobB (base W)) :
    Calls P f (xs.map valOf).toArray W fun e W' => e = .returned (valOf r) ∧ Below W.heap.size W W' := by
  refine (h.2 W (fun b => b.2 < W.heap.size) (xs.map valOf).toArray hG (fun _ h => h) ⟨by simp, fun j y u hy hu => ?_⟩).mono ?_
  · have hu' : (xs.map valOf)[j]? = some u := by simpa using hu
    rw [List.getElem?_map, hy] at hu'
    cases hu'
    exact scal1_rep (List.all_eq_true.1 hx y (List.mem_of_getElem? hy))
  · rintro e w' ⟨v, r', rfl, rfl, _, hrep⟩
    obtain ⟨κ, hi⟩ := hrep 0
    have hreg : (V.reg 0 r').1 = r' := by
      revert hr
      exact regS r'
    refine ⟨?_, below_of_kept hi.kept⟩
    have := hi.tmps 0
    simp only [if_pos] at this
    have e3 : (#[v] : Array Value).getD 0 undef = v := rfl
    rw [e3, hreg] at this
    rw [valOf_rep _ _ hr this]
where
  regS : ∀ x : V, x.scalar = true → (V.reg 0 x).1 = x
    | .k (.c _), _ => rfl
    | .tup vs, h => by rw [V.reg, regL vs h]
    | .k (.own _), h => by cases h
    | .k (.ptr _ _), h => by cases h
    | .k (.elem _ _ _), h => by cases h
    | .k (.pel _ _ _ _), h => by cases h
    | .k (.fnk _ _), h => by cases h
    | .k (.newl _ _ _ _), h => by cases h
    | .k .dead, h => by cases h
    | .agg _, h => by cases h
    | .agk _, h => by cases h
    | .undef, h => by cases h
    | .any, h => by cases h
  regL : ∀ xs : List V, V.scalarL xs = true → V.regL 0 xs = (xs, [])
    | [], _ => rfl
    | x :: xs, h => by
      simp only [V.scalarL, Bool.and_eq_true] at h
      have h1 := regB x h.1
      rw [V.regL, h1]
      simp only [List.length_nil, Nat.add_zero, regL xs h.2, List.append_nil]
  regB : ∀ x : V, x.scalar = true → V.reg 0 x = (x, [])
    | .k (.c _), _ => rfl
    | .tup vs, h => by rw [V.reg, regL vs h]
    | .k (.own _), h => by cases h
    | .k (.ptr _ _), h => by cases h
    | .k (.elem _ _ _), h => by cases h
    | .k (.pel _ _ _ _), h => by cases h
    | .k (.fnk _ _), h => by cases h
    | .k (.newl _ _ _ _), h => by cases h
    | .k .dead, h => by cases h
    | .agg _, h => by cases h
    | .agk _, h => by cases h
    | .undef, h => by cases h
    | .any, h => by cases h
theorem c51 {n : Nat} (hn : n ≤ 16) {W : World} (hG : GlobB (base W)) : Calls Tryz.prog 78 #[.int .u64 1, .int .u64 n] W fun e W' => e = .returned (.tuple #[.int .u64 0, .int .u64 n]) ∧ Below W.heap.size W W' := (w51 n hn).scal rfl rfl hG
theorem c52 {W : World} (hG : GlobB (base W)) : Calls Tryz.prog 79 #[.string ⟨(List.replicate 64 48).toArray⟩, .string ⟨#[48]⟩] W fun e W' => e = .returned (.bool true) ∧ Below W.heap.size W W' := w52.scal rfl rfl hG
theorem cw (B m k : Nat) (w : World) (hm : m ≤ k) (hk : k ≤ 16) (h : Go.Lib.IsBuilderF 92 5 B B (Go.Lib.byteCells (List.replicate k 0)) w) (hB : B ≤ w.heap.size) :
    Calls Tryz.prog 81 #[.pointer (some ⟨B, 0, none⟩), .string ((⟨Array.replicate k 0⟩ : ByteArray).extract 0 m)] w fun e w' => (∃ z : Int, e = .returned (.tuple #[.int .i64 z, .nilIface])) ∧ Go.Lib.IsBuilderF 92 5 B B (Go.Lib.byteCells (List.replicate (k + m) 0)) w' ∧ Below B w w' := by
  have e : (⟨Array.replicate k 0⟩ : ByteArray).extract 0 m = ⟨(List.replicate m 0).toArray⟩ := by
    apply ByteArray.ext
    apply Array.ext'
    rw [ByteArray.data_extract, Array.toList_extract, List.extract_eq_take_drop]
    simp
    omega
  rw [e]
  refine (b_write B B _ ⟨(List.replicate m 0).toArray⟩ w h (by rw [Go.Lib.byteCells_length, List.length_replicate]; show k + (List.replicate m (0 : UInt8)).toArray.size ≤ _; simp; omega) hB).mono ?_
  rintro e w' ⟨rfl, h1, h2⟩
  refine ⟨⟨_, rfl⟩, ?_, h2⟩
  have e2 : Go.Lib.byteCells (List.replicate k 0) ++ Go.Lib.strCells ⟨(List.replicate m 0).toArray⟩ = Go.Lib.byteCells (List.replicate (k + m) 0) := by
    rw [← List.replicate_append_replicate, Go.Lib.byteCells_append]; rfl
  rw [← e2]; exact h1
theorem rep_zero (n : Nat) (hn : n ≤ 16) (w : World) (hG : GlobB (base w)) :
    Calls Tryz.prog 57 #[.string ⟨#[0]⟩, .int .i64 n] w fun e w' => e = .returned (.string ⟨(List.replicate n 0).toArray⟩) ∧ Below w.heap.size w w' := by
  by_cases h0 : n = 0
  · subst h0
    go_enter Tryz.func57, Tryz.ntmps57
    go_wp2
    go_ret
    exact ⟨rfl, Below.refl _ _⟩
  by_cases h1 : n = 1
  · subst h1
    go_enter Tryz.func57, Tryz.ntmps57
    go_wp2
    go_ret
    exact ⟨rfl, Below.refl _ _⟩
  have i0 : ¬ (n : Int) = 0 := by omega
  have i1 : ¬ (n : Int) = 1 := by omega
  have i2 : ¬ (n : Int) < 0 := by omega
  have i3 : ¬ (n : Int) > 9223372036854775807 := by omega
  have i4 : ¬ (n : Int) > 8192 := by omega
  have wu : IntKind.u64.wrap (n : Int) = n := by unfold IntKind.wrap; simp [IntKind.signed, IntKind.bits]; omega
  have wi : IntKind.i64.wrap (n : Int) = n := wrap_in (by omega) (by omega)
  go_enter Tryz.func57, Tryz.ntmps57
  go_wp2_with (go_at_call 78; refine (c51 hn hG).mono ?_; rintro e w1 ⟨rfl, hb1⟩)
  have hg1 : (w1.alloc (.cells #[.pointer none, .slice none 0 0] 92)).heap[w1.heap.size]? = some (.cells #[.pointer none, .slice none 0 0] 92 (0, 0)) := alloc_get w1 _
  have hb2 : Below w1.heap.size w1 (w1.alloc (.cells #[.pointer none, .slice none 0 0] 92)) := (Below.refl _ w1).alloc (Nat.le_refl _) _
  go_wp2_with (go_at_call 80; refine (b_grow w1.heap.size w1.heap.size n _ (Nat.le_refl _) hg1 hb2.size (by omega)).mono ?_; rintro e w2 ⟨rfl, hI2, hb3⟩)
  have hb4 := hb2.trans hb3
  go_wp2_with (go_at_call 81; refine (b_write w1.heap.size w1.heap.size [] ⟨#[0]⟩ _ hI2 (by decide) hb4.size).mono ?_; rintro e w3 ⟨rfl, hI3, hb5⟩)
  have hb6 := hb4.trans hb5
  have hI4 : Lib.IsBuilderF 92 5 w1.heap.size w1.heap.size (Lib.byteCells (List.replicate 1 0)) w3 := hI3
  go_wp2
  go_loopg [10] (n - 1) (fun g c wr => ∃ k : Nat, 1 ≤ k ∧ k ≤ n ∧ g = n - k ∧ Lib.IsBuilderF 92 5 w1.heap.size w1.heap.size (Lib.byteCells (List.replicate k 0)) wr ∧ Below w1.heap.size w1 wr)
  case atStart => exact ⟨1, Nat.le_refl _, by omega, rfl, hI4, hb6⟩
  case round =>
    obtain ⟨k, k1, k2, rfl, hI, hb⟩ := hrel
    have hl : (Lib.byteCells (List.replicate k 0)).length = k := by rw [Lib.byteCells_length, List.length_replicate]
    have hL := b_len w1.heap.size w1.heap.size _ wr hI
    rw [hl] at hL
    by_cases hlt : k < n
    · have hkn : (k : Int) < n := by omega
      have ws : IntKind.i64.wrap ((n : Int) - k) = (n : Int) - k := wrap_in (by omega) (by omega)
      have hsz : w1.heap.size ≤ wr.heap.size := hb.size
      go_wp2_with (first | (go_at_call 82; refine hL.mono ?_; rintro e w4 ⟨rfl, rfl⟩) | (go_at_call 83; refine (b_stringF w1.heap.size w1.heap.size _ _ hI hsz).mono ?_; rintro e w5 ⟨rfl, hI5, hb7⟩))
      case inr =>
        refine (cw w1.heap.size (n - k) k _ (by omega) (by omega) hI5 (hb.trans hb7).size).mono ?_
        rintro e w6 ⟨⟨z, rfl⟩, hI6, hb8⟩
        clear hI5 hI hL hI4 hI2 hI3
        go_wp2
        go_roundg (n - (k + (n - k)))
        case rel => exact ⟨k + (n - k), by omega, by omega, rfl, hI6, hb.trans (hb7.trans hb8)⟩
        case measure => omega
      case inl =>
        refine (cw w1.heap.size k k _ (by omega) (by omega) hI5 (hb.trans hb7).size).mono ?_
        rintro e w6 ⟨⟨z, rfl⟩, hI6, hb8⟩
        clear hI5 hI hL hI4 hI2 hI3
        go_wp2
        go_roundg (n - (k + k))
        case rel => exact ⟨k + k, by omega, by omega, rfl, hI6, hb.trans (hb7.trans hb8)⟩
        case measure => omega
    · obtain rfl : k = n := by omega
      go_wp2_with (first | (go_at_call 82; refine hL.mono ?_; rintro e w4 ⟨rfl, rfl⟩) | (go_at_call 83; refine (b_stringF w1.heap.size w1.heap.size _ _ hI hb.size).mono ?_; rintro e w5 ⟨rfl, hI5, hb7⟩))
      go_wp2
      go_ret
      exact ⟨rfl, hb1.trans ((hb.trans hb7).mono hb1.size)⟩
theorem w61n (s : Txt) (hs : s.take 1 ≠ [48]) (hl : s.length ≤ 1000000) : Spec Tryz.prog 108 [.str s, .str [48]] (fun r => r = .bool false) := by
  refine Spec.of_awlS hf108 okf108 (by simp) fun S hS => ?_
  by_cases h : (s.length : Int) ≥ 1
  · have e : (s.take 1 == [48]) = false := by simpa using hs
    have b1 : (1 : Int) ≤ s.length := h
    simp only [h, b1, e, List.length_cons, List.length_nil, Qs, q_AOp_dst_eq_19, q_binStr_eq_2, if_true, List.nodup_nil, Nat.reduceAdd, Nat.reduceBEq, Int.reduceLE, Int.reduceToNat, uu f108.eq_1, vv f108r1.eq_1, uu f108b2.eq_1, vv f108r3.eq_1, uu f108b4.eq_1]
    simpa [e] using hS
  · simp only [h, List.length_cons, List.length_nil, Qs, q_AOp_dst_eq_19, if_true, List.nodup_nil, Nat.reduceAdd, Nat.reduceBEq, uu f108.eq_1, vv f108r1.eq_1, uu f108b2.eq_1, vv f108r3.eq_1, uu f108b4.eq_1]
    exact hS
theorem w52n (s : Txt) (hs : s.take 1 ≠ [48]) (hl : s.length ≤ 1000000) : Spec Tryz.prog 79 [.str s, .str [48]] (fun r => r = .bool false) := by
  refine Spec.of_awlS hf79 okf79 (by simp) fun S hS => ?_
  simp only [Qs, Nat.reduceAdd, Nat.reduceBEq, uu f79.eq_1, vv f79r1.eq_1, uu f79b2.eq_1, vv f79r3.eq_1, uu f79b4.eq_1]
  refine call_s (w61n s hs hl) ?_
  simp only [Qs, List.nodup_nil]
  exact hS
theorem c52n (X : ByteArray) (hs : X.data.toList.take 1 ≠ [48]) (hl : X.data.toList.length ≤ 1000000) {W : World} (hG : GlobB (base W)) : Calls Tryz.prog 79 #[.string X, .string ⟨#[48]⟩] W fun e W' => e = .returned (.bool false) ∧ Below W.heap.size W W' := (w52n _ hs hl).scal rfl rfl hG
theorem rep_eight (w : World) (hG : GlobB (base w)) :
    Calls Tryz.prog 57 #[.string ⟨#[48]⟩, .int .i64 8] w fun e w' => e = .returned (.string ⟨(List.replicate 8 48).toArray⟩) ∧ Below w.heap.size w w' := by
  have hG1 : ∀ {w1}, Below w.heap.size w w1 → GlobB (base w1) := fun hb => hG.later (kept_of_below hb)
  have h1 : Calls Tryz.prog 78 #[.int .u64 1, .int .u64 8] w fun e W' => e = .returned (.tuple #[.int .u64 0, .int .u64 8]) ∧ Below w.heap.size w W' := c51 (n := 8) (by decide) hG
  have h2 : ∀ (X : ByteArray) (W : World), Below w.heap.size w W → X.data.toList.take 1 ≠ [48] → X.data.toList.length ≤ 1000000 → Calls Tryz.prog 79 #[.string X, .string ⟨#[48]⟩] W fun e W' => e = .returned (.bool false) ∧ Below w.heap.size w W' :=
    fun X W hb a b => (c52n X a b (hG1 hb)).mono fun e W' h => ⟨h.1, hb.trans (h.2.mono hb.size)⟩
  have h3 : ∀ (W : World), Below w.heap.size w W → Calls Tryz.prog 79 #[.string ⟨(List.replicate 64 48).toArray⟩, .string ⟨#[48]⟩] W fun e W' => e = .returned (.bool true) ∧ Below w.heap.size w W' :=
    fun W hb => (c52 (hG1 hb)).mono fun e W' h => ⟨h.1, hb.trans (h.2.mono hb.size)⟩
  go_enter Tryz.func57, Tryz.ntmps57
  go_wp2_with (first
    | (go_at_call 78; refine h1.mono ?_; rintro e w1 ⟨rfl, hb1⟩)
    | (go_at_call 79; refine (h2 _ _ (by assumption) (by decide) (by decide)).mono ?_; rintro e w2 ⟨rfl, hb2⟩)
    | (go_at_call 79; refine (h3 _ (by assumption)).mono ?_; rintro e w3 ⟨rfl, hb3⟩))
  go_wp2
  go_ret
  exact ⟨rfl, hb3⟩
end Go.Abs


set_option maxRecDepth 100000
set_option maxHeartbeats 8000000
namespace Go.Proofs
open Go.Shelf Go.RowKit Go.Lib
def cat (enc : Nat → List UInt8) : Nat → List UInt8
  | 0 => []
  | k + 1 => cat enc k ++ enc k
theorem cat_le (enc : Nat → List UInt8) : ∀ {k n : Nat}, k ≤ n → (cat enc k).length ≤ (cat enc n).length
  | k, 0, h => by
    obtain rfl : k = 0 := by omega
    exact Nat.le_refl _
  | k, n + 1, h => by
    by_cases hk : k = n + 1
    · rw [hk]; exact Nat.le_refl _
    · have := cat_le enc (k := k) (n := n) (by omega)
      rw [cat, List.length_append]; omega
theorem b_writeL (B b : Nat) (l x : List UInt8) (w : World) (h : Lib.IsBuilderF 92 5 B b (Lib.byteCells l) w) (hlen : l.length + x.length ≤ 140737488355328) (hBw : B ≤ w.heap.size) :
    Calls Tryz.prog 81 #[.pointer (some ⟨b, 0, none⟩), .string ⟨x.toArray⟩] w fun e w' => e = .returned (.tuple #[.int .i64 x.length, .nilIface]) ∧ Lib.IsBuilderF 92 5 B b (Lib.byteCells (l ++ x)) w' ∧ Below B w w' := by
  have hsz : (⟨x.toArray⟩ : ByteArray).size = x.length := by show x.toArray.size = _; simp
  refine (b_write B b (Lib.byteCells l) ⟨x.toArray⟩ w h (by rw [Lib.byteCells_length, hsz]; exact hlen) hBw).mono ?_
  rintro e w' ⟨rfl, h1, h2⟩
  exact ⟨by rw [hsz], by rw [Lib.byteCells_append]; exact h1, h2⟩
theorem join_many (n cap b o : Nat) (enc : Nat → List UInt8) (w : World) (hb0 : b < w.heap.size) (hp : ∀ k, k < n → w.cell? ⟨b, o + k, none⟩ = some (.string ⟨(enc k).toArray⟩)) (h2 : 2 ≤ n) (hn : n ≤ 1000000) (hcap : n ≤ cap) (hlen : (cat enc n).length ≤ 140737488355328) :
    Calls Tryz.prog 89 #[.slice (some ⟨b, o, none⟩) n cap, .string ⟨#[]⟩] w fun e w' => e = .returned (.string ⟨(cat enc n).toArray⟩) ∧ Below w.heap.size w w' := by
  have i0 : ¬ (n : Int) = 0 := by omega
  have i1 : ¬ (n : Int) = 1 := by omega
  go_enter Tryz.func89, Tryz.ntmps89
  go_wp2
  have i0b : ((n : Int) == 0) = false := by simpa using i0
  have i1b : ((n : Int) == 1) = false := by simpa using i1
  simp only [i0b, i1b]
  go_loopg [5, 41] n (fun g t i wr => wr = w ∧ ∃ k : Nat, k ≤ n ∧ g = n - k ∧ i = .int .i64 k ∧ t = .int .i64 (cat enc k).length)
  case atStart => exact ⟨rfl, 0, Nat.zero_le _, rfl, rfl, rfl⟩
  case round =>
    obtain ⟨rfl, k, hk, rfl, rfl, rfl⟩ := hrel
    by_cases hlt : k < n
    · have hc := hp k hlt
      have hkn : (k : Int) < n := by omega
      have hle := cat_le enc (k := k + 1) (n := n) (by omega)
      rw [cat, List.length_append] at hle
      have hwr : IntKind.i64.wrap ((k : Int) + 1) = ((k + 1 : Nat) : Int) := by unfold IntKind.wrap; simp [IntKind.signed, IntKind.bits]; omega
      have hsz : (⟨(enc k).toArray⟩ : ByteArray).size = (enc k).length := by show (enc k).toArray.size = _; simp
      have hw2 : IntKind.i64.wrap (9223372036854775807 - ((cat enc k).length : Int)) = 9223372036854775807 - ((cat enc k).length : Int) := Go.Abs.wrap_in (by omega) (by omega)
      have hw3 : IntKind.i64.wrap (((cat enc k).length : Int) + (enc k).length) = (((cat enc k).length : Int) + (enc k).length) := Go.Abs.wrap_in (by omega) (by omega)
      have hng : ¬ ((enc k).length : Int) > 9223372036854775807 - ((cat enc k).length : Int) := by omega
      go_wp2
      go_roundg (n - (k + 1))
      case measure => omega
      case rel =>
        refine ⟨rfl, k + 1, by omega, rfl, by go_num, ?_⟩
        rw [cat, List.length_append]; go_num
    · obtain rfl : k = n := by omega
      rename World => w0
      have c0 := hp 0 (by omega)
      rw [Nat.add_zero] at c0
      have hle1 := cat_le enc (k := 1) (n := k) (by omega)
      have e01 : cat enc 1 = enc 0 := rfl
      rw [e01] at hle1
      have hg1 : (w0.alloc (.cells #[.pointer none, .slice none 0 0] 92)).heap[w0.heap.size]? = some (.cells #[.pointer none, .slice none 0 0] 92 (0, 0)) := Go.Abs.alloc_get w0 _
      have hb2 : Below w0.heap.size w0 (w0.alloc (.cells #[.pointer none, .slice none 0 0] 92)) := (Below.refl _ w0).alloc (Nat.le_refl _) _
      have hb4of : ∀ w2, Below w0.heap.size (w0.alloc (.cells #[.pointer none, .slice none 0 0] 92)) w2 → w2.cell? ⟨b, o, none⟩ = some (.string ⟨(enc 0).toArray⟩) := fun w2 h => ((hb2.trans h).cell (p := ⟨b, o, none⟩) hb0).trans c0
      go_wp2_with (first | (go_at_call 80; refine (b_grow w0.heap.size w0.heap.size (cat enc k).length _ (Nat.le_refl _) hg1 hb2.size (by omega)).mono ?_; rintro e w2 ⟨rfl, hI2, hb3⟩; have c0' := hb4of w2 hb3) | (go_at_call 81; refine (b_writeL w0.heap.size w0.heap.size [] (enc 0) _ hI2 (by rw [List.length_nil]; omega) (hb2.trans hb3).size).mono ?_; rintro e w3 ⟨rfl, hI3, hb5⟩))
      have hb6 := (hb2.trans hb3).trans hb5
      go_loopg [65] (k - 1) (fun g i w0' => Below w0.heap.size w0 w0' ∧ ∃ j : Nat, j + 1 ≤ k ∧ g = k - 1 - j ∧ i = .int .i64 j ∧ Lib.IsBuilderF 92 5 w0.heap.size w0.heap.size (Lib.byteCells (cat enc (j + 1))) w0')
      case atStart => exact ⟨hb6, 0, by omega, rfl, rfl, hI3⟩
      case round =>
        obtain ⟨hbx, j, hj, rfl, rfl, hIx⟩ := hrel
        by_cases hlt2 : j + 1 < k
        · have hkn : (j : Int) < k - 1 := by omega
          have hkn2 : (j : Int) < ((k - 1 : Nat) : Int) := by omega
          have hkn3 : j < k - 1 := by omega
          have cj0 := hp (j + 1) hlt2
          rw [show o + (j + 1) = o + 1 + j by omega] at cj0
          have cj := (hbx.cell (p := ⟨b, o + 1 + j, none⟩) hb0).trans cj0
          have hwr : IntKind.i64.wrap ((j : Int) + 1) = ((j + 1 : Nat) : Int) := by unfold IntKind.wrap; simp [IntKind.signed, IntKind.bits]; omega
          have hle2 := cat_le enc (k := j + 1 + 1) (n := k) (by omega)
          rw [cat, List.length_append] at hle2
          go_wp2_with (first | (go_at_call 81; refine (b_writeL w0.heap.size w0.heap.size (cat enc (j + 1)) (enc (j + 1)) _ hI5 (by omega) (hbx.trans hb7).size).mono ?_; rintro e w6 ⟨rfl, hI6, hb8⟩) | (go_at_call 81; refine (b_writeL w0.heap.size w0.heap.size (cat enc (j + 1)) [] _ hIx (by simp only [List.length_nil]; omega) hbx.size).mono ?_; rintro e w5 ⟨rfl, hI5, hb7⟩; rw [List.append_nil] at hI5))
          go_roundg (k - 1 - (j + 1))
          case measure => omega
          case rel => exact ⟨(hbx.trans hb7).trans hb8, j + 1, by omega, rfl, by go_num, hI6⟩
        · obtain rfl : j + 1 = k := by omega
          have hge : ¬ (j : Int) < ((j + 1 : Nat) : Int) - 1 := by omega
          have hge2 : ¬ (j : Int) < ((j + 1 - 1 : Nat) : Int) := by omega
          go_wp2_with (go_at_call 83; refine (b_stringF w0.heap.size w0.heap.size (cat enc (j + 1)) _ hIx hbx.size).mono ?_; rintro e w6 ⟨rfl, hI6, hb8⟩)
          go_ret
          exact ⟨rfl, hbx.trans hb8⟩
theorem join_none (cap : Nat) (ao : Option Addr) (w : World) :
    Calls Tryz.prog 89 #[.slice ao 0 cap, .string ⟨#[]⟩] w fun e w' => e = .returned (.string ⟨#[]⟩) ∧ Below w.heap.size w w' := by
  go_enter Tryz.func89, Tryz.ntmps89
  go_wp2
  go_ret
  exact ⟨rfl, Below.refl _ _⟩
theorem join_one (cap b o : Nat) (s : ByteArray) (w : World) (hc : w.cell? ⟨b, o, none⟩ = some (.string s)) (hcap : 1 ≤ cap) :
    Calls Tryz.prog 89 #[.slice (some ⟨b, o, none⟩) 1 cap, .string ⟨#[]⟩] w fun e w' => e = .returned (.string s) ∧ Below w.heap.size w w' := by
  go_enter Tryz.func89, Tryz.ntmps89
  go_wp2
  go_ret
  exact ⟨rfl, Below.refl _ _⟩
end Go.Proofs


set_option maxRecDepth 100000
set_option maxHeartbeats 8000000
namespace Go.Proofs
open Go.Shelf Go.RowKit Go.Lib
theorem info67 : ∃ i, Tryz.prog.info? 52 = some i ∧ i.zero = some (.agg #[.int .i64 0, .string ⟨#[]⟩]) ∧ i.size = 2 ∧ i.bytes = 24 := info_parts (by kernel_rfl)
theorem clone46 (b off n c : Nat) (news : List Value) (w : World) (hl : news.length = n * 2) (hn : n ≤ 512) (hc : ∀ j u, news[j]? = some u → w.cell? ⟨b, off + j, none⟩ = some u) (h1 : ∀ u ∈ news, u.oneCell' = true) :
    Calls Tryz.prog 38 #[.slice (some ⟨b, off, none⟩) n c] w fun e w' => ∃ v', e = .returned v' ∧ w'.ownsRow w.heap.size 52 2 v' n news ∧ Below w.heap.size w w' := by
  obtain ⟨i0, hi, hz0, hz1, hz2⟩ := info67
  have A : Aside (∀ j u, news[j]? = some u → w.cell? ⟨b, off + j, none⟩ = some u) := hc
  clear hc
  have q24 : ∀ (w : World) (a : Option Addr) (n c n' c' : Nat), (binOp .eql 23 (.slice a n c) (.slice none n' c')).run Tryz.prog w = .ok (.bool a.isNone) w := fun w a n c n' c' => Lib.run_eql_slice_nil w _ _ a n c n' c' Tryz.underlying23
  go_enter Tryz.func38, Tryz.ntmps38
  go_wp2_with (at_builtin; refine wpList_append_own _ rfl _ _ 23 rfl w.heap.size 52 i0 (.agg #[.int .i64 0, .string ⟨#[]⟩]) 2 24 Tryz.underlying23 hi hz0 hz1 hz2 rfl (by decide) _ _ _ rfl (World.ownsRow_made w #[] 0 (Nat.le_refl _) (Nat.zero_le _) rfl) ⟨b, off, none⟩ n c news rfl hl ?qc2 h1 ?qc4 ?qc5 ?qc6 ?_)
  case qc2 =>
    intro j u hj
    rw [Addr.add_lit]
    exact Lib.cell?_alloc_some _ (A.out j u hj)
  case qc4 => unfold maxLen; omega
  case qc5 => omega
  case qc6 => simp
  intro v' w1 hown hgrow hnil
  go_wp2
  go_ret
  exact ⟨v', rfl, by simpa using hown, ((Below.refl _ w).alloc (Nat.le_refl _) _).grown hgrow (by simp) (by intro k hk; simp [Value.ownBlock] at hk; omega)⟩
theorem clone46_nil (n c : Nat) (w : World) :
    Calls Tryz.prog 38 #[.slice none n c] w fun e w' => e = .returned (.slice none 0 0) ∧ w' = w := by
  have q24 : ∀ (w : World) (a : Option Addr) (n c n' c' : Nat), (binOp .eql 23 (.slice a n c) (.slice none n' c')).run Tryz.prog w = .ok (.bool a.isNone) w := fun w a n c n' c' => Lib.run_eql_slice_nil w _ _ a n c n' c' Tryz.underlying23
  go_enter Tryz.func38, Tryz.ntmps38
  go_wp2
  go_ret
  exact ⟨rfl, rfl⟩
theorem clone46_zero (a : Addr) (c : Nat) (w : World) :
    Calls Tryz.prog 38 #[.slice (some a) 0 c] w fun e w' => ∃ v', e = .returned v' ∧ w'.ownsRow w.heap.size 52 2 v' 0 [] ∧ Below w.heap.size w w' := by
  obtain ⟨i0, hi, hz0, hz1, hz2⟩ := info67
  have q24 : ∀ (w : World) (a : Option Addr) (n c n' c' : Nat), (binOp .eql 23 (.slice a n c) (.slice none n' c')).run Tryz.prog w = .ok (.bool a.isNone) w := fun w a n c n' c' => Lib.run_eql_slice_nil w _ _ a n c n' c' Tryz.underlying23
  go_enter Tryz.func38, Tryz.ntmps38
  go_wp2_with (at_builtin; refine wpList_append_own _ rfl _ _ 23 rfl w.heap.size 52 i0 (.agg #[.int .i64 0, .string ⟨#[]⟩]) 2 24 Tryz.underlying23 hi hz0 hz1 hz2 rfl (by decide) _ _ _ rfl (World.ownsRow_made w #[] 0 (Nat.le_refl _) (Nat.zero_le _) rfl) a 0 c [] rfl rfl (by intro j u hj; simp at hj) (by intro u hu; cases hu) (by unfold maxLen; omega) (by omega) (by simp) ?_)
  intro v' w1 hown hgrow hnil
  go_wp2
  go_ret
  exact ⟨v', rfl, by simpa using hown, ((Below.refl _ w).alloc (Nat.le_refl _) _).grown hgrow (by simp) (by intro k hk; simp [Value.ownBlock] at hk; omega)⟩
theorem clone46_any (p : Option Addr) (n c : Nat) (news : List Value) (w : World) (hl : news.length = n * 2) (hn : n ≤ 512) (hc : 0 < n → ∃ b off, p = some ⟨b, off, none⟩ ∧ ∀ j u, news[j]? = some u → w.cell? ⟨b, off + j, none⟩ = some u) (h1 : ∀ u ∈ news, u.oneCell' = true) :
    Calls Tryz.prog 38 #[.slice p n c] w fun e w' => ∃ v', e = .returned v' ∧ w'.ownsRow w.heap.size 52 2 v' n news ∧ Below w.heap.size w w' := by
  by_cases h0 : n = 0
  · subst h0
    obtain rfl : news = [] := List.eq_nil_of_length_eq_zero (by omega)
    cases p with
    | none => exact (clone46_nil 0 c w).mono (by rintro e w' ⟨rfl, rfl⟩; exact ⟨_, rfl, ⟨rfl, .inl ⟨rfl, rfl⟩⟩, Below.refl _ _⟩)
    | some a => exact clone46_zero a c w
  · obtain ⟨b, off, rfl, h⟩ := hc (by omega)
    exact clone46 b off n c news w hl hn h h1
theorem al_size (w : World) (A : Obj) : (w.alloc A).heap.size = w.heap.size + 1 := by
  show (w.heap.push A).size = _
  exact Array.size_push ..
theorem al_get1 (w : World) (A B : Obj) : ((w.alloc A).alloc B).heap[w.heap.size]? = some A := by
  have h := ((Below.refl (w.heap.size + 1) (w.alloc A)).alloc (Nat.le_of_eq (al_size w A).symm) B).block w.heap.size (Nat.lt_succ_self _)
  rw [h]
  exact Go.Abs.alloc_get w A
theorem al_get2 (w : World) (A B : Obj) : ((w.alloc A).alloc B).heap[w.heap.size + 1]? = some B := by
  rw [← al_size w A]; exact Go.Abs.alloc_get _ B
theorem al_get3 (w : World) (A B C : Obj) : (((w.alloc A).alloc B).alloc C).heap[w.heap.size + 2]? = some C := by
  rw [show w.heap.size + 2 = (w.heap.size + 1) + 1 from rfl, ← al_size w A]; exact al_get2 (w.alloc A) B C
theorem fresh36 (b1 o1 n1 c1 : Nat) (ss : List Value) (p : Option Addr) (n2 c2 : Nat) (news : List Value) (l : Int) (bb : Bool) (w : World) (hn1 : n1 ≤ 512) (hl1 : ss.length = n1) (h11 : ∀ u ∈ ss, u.oneCell' = true) (h10 : 0 < n1) (hc1 : ∀ j u, ss[j]? = some u → w.cell? ⟨b1, o1 + j, none⟩ = some u)
    (hl : news.length = n2 * 2) (hn : n2 ≤ 512) (hc : 0 < n2 → ∃ b off, p = some ⟨b, off, none⟩ ∧ ∀ j u, news[j]? = some u → w.cell? ⟨b, off + j, none⟩ = some u) (h1 : ∀ u ∈ news, u.oneCell' = true) :
    Calls Tryz.prog 55 #[.agg #[.slice (some ⟨b1, o1, none⟩) n1 c1, .slice p n2 c2, .int .i64 l, .bool bb]] w fun e w' => ∃ g v', e = .returned (.agg #[.slice (some ⟨g, 0, none⟩) n1 n1, v', .int .i64 l, .bool bb]) ∧ w.heap.size ≤ g ∧ w'.heap[g]? = some (.cells ss.toArray 9 (0, 0)) ∧ (∃ B, w'.ownsRow B 52 2 v' n2 news ∧ g < B) ∧ Below w.heap.size w w' := by
  have b1lt : b1 < w.heap.size := by
    obtain ⟨u, hu⟩ : ∃ u, ss[0]? = some u := ⟨ss[0], by simp [hl1, h10]⟩
    have := hc1 0 u hu
    exact Nat.lt_of_not_le fun hge => by simp [World.cell?, Array.getElem?_eq_none hge] at this
  obtain ⟨zs, hzl, hmk⟩ : ∃ zs : List Value, zs.length = n1 ∧ ∀ w : World, (Instr.makeSlice 22 (.int .i64 (n1 : Int)) (.int .i64 (n1 : Int))).run Tryz.prog w = .ok (.slice (some ⟨w.heap.size, 0, none⟩) n1 n1) (w.alloc (.cells zs.toArray 9)) := by
    obtain ⟨i0, hi, hz0, hz1, hz2⟩ := info_parts (P := Tryz.prog) (e := 9) (z := .string ⟨#[]⟩) (size := 1) (bytes := 16) (by kernel_rfl)
    refine ⟨(madeCells (Value.string ⟨#[]⟩).cells n1).toList, by rw [Array.length_toList, size_madeCells], fun w => ?_⟩
    have h := run_makeSlice (P := Tryz.prog) (w := w) 22 9 i0 (.string ⟨#[]⟩) Tryz.underlying22 hi hz0 .i64 .i64 (n1 : Int) (n1 : Int) (by omega) (Int.le_refl _) (by rw [hz1]; simp; omega) (by rw [hz2]; omega) (by omega)
    rw [hz1] at h
    simpa using h
  go_enter Tryz.func55, Tryz.ntmps55
  obtain ⟨Wa, hWa⟩ : ∃ Wa, Wa = (w.alloc (Obj.cells #[Value.slice (some { block := b1, off := o1 }) n1 c1, Value.slice p n2 c2, .int .i64 l, .bool bb] 25)).alloc (Obj.cells #[Value.slice none 0 0, Value.slice none 0 0, Value.int IntKind.i64 0, Value.bool false] 25) := ⟨_, rfl⟩
  go_wp2_with ((refine wpList_copy_splice rfl (.tmp 8) (.tmp 10) 22 22 rfl 9 Tryz.underlying22 (by kernel_rfl) _ _ n1 n1 n1 c1 rfl rfl (w.heap.size + 2) 0 zs 9 ?hg ss ?hn ?hpos ?hfit h11 (w.heap.size + 2) Wa ?hb ?hBg ?_))
  case hg => exact al_get3 _ _ _ _
  case hn => rw [hl1]; exact (Nat.min_self n1).symm
  case hpos => intro j v hv; exact Lib.cell?_alloc_some _ (Lib.cell?_alloc_some _ (Lib.cell?_alloc_some _ (hc1 j v hv)))
  case hfit => omega
  case hb => subst hWa; exact (Below.refl _ _).alloc (by rw [al_size, al_size]; exact Nat.le_refl _) _
  case hBg => exact Nat.le_refl _
  intro w3 hg3 hb3
  have hg3 := hg3.out
  have hsp : splice zs 0 ss = ss := by
    unfold splice
    rw [Nat.zero_add, List.take_zero, List.nil_append, List.drop_eq_nil_of_le (by omega), List.append_nil]
  rw [hsp] at hg3
  have hba : Below w.heap.size w ((w.alloc (Obj.cells #[Value.slice (some { block := b1, off := o1 }) n1 c1, Value.slice p n2 c2, .int .i64 l, .bool bb] 25)).alloc (Obj.cells #[Value.slice none 0 0, Value.slice none 0 0, Value.int IntKind.i64 0, Value.bool false] 25)) := ((Below.refl _ w).alloc (Nat.le_refl _) _).alloc (by rw [al_size]; omega) _
  have hs3 : w.heap.size + 3 ≤ w3.heap.size := by
    have := Go.Abs.heap_lt hg3
    omega
  have q0 : w3.heap[w.heap.size]? = some (.cells #[Value.slice (some { block := b1, off := o1 }) n1 c1, Value.slice p n2 c2, .int .i64 l, .bool bb] 25 (0, 0)) := (hb3.block _ (by omega)).trans (al_get1 _ _ _)
  have q1 : w3.heap[w.heap.size + 1]? = some (.cells #[Value.slice none 0 0, Value.slice none 0 0, Value.int IntKind.i64 0, Value.bool false] 25 (0, 0)) := (hb3.block _ (by omega)).trans (al_get2 _ _ _)
  have hbw : Below w.heap.size w w3 := hba.trans ⟨hb3.os, hb3.tape, hb3.output, hb3.size, fun k hk => hb3.block k (by omega)⟩
  have hc' : 0 < n2 → ∃ b off, p = some ⟨b, off, none⟩ ∧ ∀ j u, news[j]? = some u → w3.cell? ⟨b, off + j, none⟩ = some u := fun h => by
    obtain ⟨b, off, rfl, h⟩ := hc h
    refine ⟨b, off, rfl, fun j u hj => (hbw.cell (p := ⟨b, off + j, none⟩) ?_).trans (h j u hj)⟩
    have := h j u hj
    exact Nat.lt_of_not_le fun hge => by simp [World.cell?, Array.getElem?_eq_none hge] at this
  have k0 : w3.cell? ⟨w.heap.size, 0, none⟩ = some (Value.slice (some { block := b1, off := o1 }) n1 c1) := by rw [Lib.cell_of_heap q0]; rfl
  have k1 : w3.cell? ⟨w.heap.size, 1, none⟩ = some (Value.slice p n2 c2) := by rw [Lib.cell_of_heap q0]; rfl
  clear hc hc1 hb3
  have after : ∀ w4, Below w3.heap.size w3 w4 → w4.heap[w.heap.size]? = some (.cells #[Value.slice (some { block := b1, off := o1 }) n1 c1, Value.slice p n2 c2, .int .i64 l, .bool bb] 25 (0, 0)) ∧ w4.heap[w.heap.size + 1]? = some (.cells #[Value.slice none 0 0, Value.slice none 0 0, Value.int IntKind.i64 0, Value.bool false] 25 (0, 0)) ∧ w4.heap[w.heap.size + 2]? = some (.cells ss.toArray 9 (0, 0)) := fun w4 h4 => ⟨(h4.block _ (by omega)).trans q0, (h4.block _ (by omega)).trans q1, (h4.block _ (by omega)).trans hg3⟩
  go_wp2_with (go_at_call 38; refine (clone46_any p n2 c2 news w3 hl hn hc' h1).mono ?_; rintro e w4 ⟨v', rfl, hown, hb4⟩; obtain ⟨r0, r1, r2⟩ := after w4 hb4; have d0 : w4.cell? ⟨w.heap.size, 0, none⟩ = some (Value.slice (some { block := b1, off := o1 }) n1 c1) := (by rw [Lib.cell_of_heap r0]; rfl); have d1 : w4.cell? ⟨w.heap.size, 1, none⟩ = some (Value.slice p n2 c2) := (by rw [Lib.cell_of_heap r0]; rfl); have d2 : w4.cell? ⟨w.heap.size, 2, none⟩ = some (.int .i64 l) := (by rw [Lib.cell_of_heap r0]; rfl); have d3 : w4.cell? ⟨w.heap.size, 3, none⟩ = some (.bool bb) := (by rw [Lib.cell_of_heap r0]; rfl); have e0 : w4.cell? ⟨w.heap.size + 1, 0, none⟩ = some (Value.slice none 0 0) := (by rw [Lib.cell_of_heap r1]; rfl); have e1 : w4.cell? ⟨w.heap.size + 1, 1, none⟩ = some (Value.slice none 0 0) := (by rw [Lib.cell_of_heap r1]; rfl); have e2 : w4.cell? ⟨w.heap.size + 1, 2, none⟩ = some (Value.int .i64 0) := (by rw [Lib.cell_of_heap r1]; rfl); have e3 : w4.cell? ⟨w.heap.size + 1, 3, none⟩ = some (Value.bool false) := (by rw [Lib.cell_of_heap r1]; rfl); have f0 := Lib.frozen_of_heap r0; have f1 := Lib.frozen_of_heap r1; obtain ⟨ao, n', cap', rfl⟩ : ∃ ao n' cap', v' = .slice ao n' cap' := (by rcases hown.2 with ⟨hv, _⟩ | ⟨g, cap, cur, hv, _⟩ <;> exact ⟨_, _, _, hv⟩))
  have hoth : ∀ k, k ≠ w.heap.size → k ≠ w.heap.size + 1 → ((((((w4.setCell { block := w.heap.size, off := 0 } (Value.slice (some { block := w.heap.size + 1 + 1, off := 0 }) n1 n1)).setCell { block := w.heap.size, off := 1 } (Value.slice ao n' cap')).setCell { block := w.heap.size + 1, off := 0 } (Value.slice (some { block := w.heap.size + 1 + 1, off := 0 }) n1 n1)).setCell { block := w.heap.size + 1, off := 1 } (Value.slice ao n' cap')).setCell { block := w.heap.size + 1, off := 2 } (Value.int IntKind.i64 l)).setCell { block := w.heap.size + 1, off := 3 } (Value.bool bb)).heap[k]? = w4.heap[k]? := by
    intro k h1 h2
    simp [World.setCell, Array.getElem?_modify, Ne.symm h1, Ne.symm h2]
  have hres : ((((((w4.setCell { block := w.heap.size, off := 0 } (Value.slice (some { block := w.heap.size + 1 + 1, off := 0 }) n1 n1)).setCell { block := w.heap.size, off := 1 } (Value.slice ao n' cap')).setCell { block := w.heap.size + 1, off := 0 } (Value.slice (some { block := w.heap.size + 1 + 1, off := 0 }) n1 n1)).setCell { block := w.heap.size + 1, off := 1 } (Value.slice ao n' cap')).setCell { block := w.heap.size + 1, off := 2 } (Value.int IntKind.i64 l)).setCell { block := w.heap.size + 1, off := 3 } (Value.bool bb)).heap[w.heap.size + 1]? = some (.cells #[Value.slice (some { block := w.heap.size + 1 + 1, off := 0 }) n1 n1, Value.slice ao n' cap', .int .i64 l, .bool bb] 25 (0, 0)) := by
    simp [World.setCell, Array.getElem?_modify, r1]
  have hbf : Below w.heap.size w ((((((w4.setCell { block := w.heap.size, off := 0 } (Value.slice (some { block := w.heap.size + 1 + 1, off := 0 }) n1 n1)).setCell { block := w.heap.size, off := 1 } (Value.slice ao n' cap')).setCell { block := w.heap.size + 1, off := 0 } (Value.slice (some { block := w.heap.size + 1 + 1, off := 0 }) n1 n1)).setCell { block := w.heap.size + 1, off := 1 } (Value.slice ao n' cap')).setCell { block := w.heap.size + 1, off := 2 } (Value.int IntKind.i64 l)).setCell { block := w.heap.size + 1, off := 3 } (Value.bool bb)) :=
    ((((((hbw.trans (hb4.mono hbw.size)).setCell (Nat.le_refl _) _).setCell (Nat.le_refl _) _).setCell (Nat.le_succ _) _).setCell (Nat.le_succ _) _).setCell (Nat.le_succ _) _).setCell (Nat.le_succ _) _
  generalize ((((((w4.setCell { block := w.heap.size, off := 0 } (Value.slice (some { block := w.heap.size + 1 + 1, off := 0 }) n1 n1)).setCell { block := w.heap.size, off := 1 } (Value.slice ao n' cap')).setCell { block := w.heap.size + 1, off := 0 } (Value.slice (some { block := w.heap.size + 1 + 1, off := 0 }) n1 n1)).setCell { block := w.heap.size + 1, off := 1 } (Value.slice ao n' cap')).setCell { block := w.heap.size + 1, off := 2 } (Value.int IntKind.i64 l)).setCell { block := w.heap.size + 1, off := 3 } (Value.bool bb)) = W5 at hoth hres hbf ⊢
  refine bodyPost_ret (results_cell_row rfl _ _ (w.heap.size + 1) 25 _ (0, 0) _ rfl hres Tryz.underlying25 rfl (by kernel_rfl)) rfl ?_
  have hown5 : W5.ownsRow w3.heap.size 52 2 (.slice ao n' cap') n2 news := by
    refine ⟨hown.1, hown.2.imp id ?_⟩
    rintro ⟨g, cap, cur, hv, hg, hh, hr⟩
    exact ⟨g, cap, cur, hv, hg, (hoth g (by omega) (by omega)).trans hh, hr⟩
  exact ⟨w.heap.size + 2, .slice ao n' cap', rfl, by omega, (hoth _ (by omega) (by omega)).trans r2, ⟨_, hown5, hs3⟩, hbf⟩
end Go.Proofs


set_option maxRecDepth 10000
namespace Go.Jr
open Go.Wire
structure Wr where
  pos : Int
  text : Txt
  deriving Inhabited, DecidableEq
structure Disk where
  secs : List Txt
  pend : List Wr
  left : Int
  down : Bool
  deriving Inhabited, DecidableEq
def zeroD : Disk := ⟨[], [], 0, false⟩
def zeros (n : Nat) : Txt := List.replicate n 0
def newD (n : Nat) : Disk := ⟨List.replicate n (zeros 16), [], -1, false⟩
structure Right (d : Disk) : Prop where
  lo : 1 ≤ d.secs.length
  hi : d.secs.length ≤ 512
  pe : d.pend.length ≤ 512
  l0 : -1 ≤ d.left
  l1 : d.left ≤ 512
  dn : d.down = true → d.pend = [] ∧ d.left = -1
  se : ∀ s ∈ d.secs, s.length = 16
  wr : ∀ w ∈ d.pend, 0 ≤ w.pos ∧ w.pos < d.secs.length ∧ w.text.length = 16
def writeD (d : Disk) (i : Int) (s : Txt) : Disk × Int :=
  if d.down = true then (zeroD, 8)
  else if i < 0 ∨ i ≥ d.secs.length ∨ s.length > 16 then (zeroD, 1)
  else if d.pend.length ≥ 512 then (zeroD, 6)
  else (⟨d.secs, d.pend ++ [⟨i, s ++ zeros (16 - s.length)⟩], d.left, d.down⟩, 0)
def perf (l : List Txt) : List Wr → List Txt
  | [] => l
  | w :: r => perf (l.set w.pos.toNat w.text) r
def flushD (d : Disk) : Disk × Int :=
  if d.down = true then (zeroD, 8)
  else if 0 ≤ d.left ∧ d.left < d.pend.length then
    (⟨(perf d.secs (d.pend.take d.left.toNat)).set (d.pend.getD d.left.toNat default).pos.toNat ((d.pend.getD d.left.toNat default).text.take 8 ++ ((perf d.secs (d.pend.take d.left.toNat)).getD (d.pend.getD d.left.toNat default).pos.toNat []).drop 8), [], -1, true⟩, 8)
  else (⟨perf d.secs d.pend, [], if 0 ≤ d.left then d.left - d.pend.length else -1, false⟩, 0)
def armD (d : Disk) (k : Int) : Disk × Int :=
  if d.down = true then (zeroD, 8) else if k < 0 ∨ k > 512 then (zeroD, 1) else (⟨d.secs, d.pend, k, d.down⟩, 0)
def startD (d : Disk) : Disk × Int := if d.down = true then (⟨d.secs, d.pend, d.left, false⟩, 0) else (zeroD, 7)
def dig : Nat → Nat → Txt
  | 0, _ => []
  | k + 1, n => dig k (n / 10) ++ [UInt8.ofNat (48 + n % 10)]
def hdr (n : Nat) : Txt := dig 8 n ++ dig 8 n
def isDig (c : UInt8) : Bool := decide (48 ≤ c.toNat ∧ c.toNat ≤ 57)
def valD (l : Txt) : Nat := l.foldl (fun a c => a * 10 + (c.toNat - 48)) 0
def numT (s : Txt) : Option Nat := if s.take 8 = s.drop 8 ∧ (s.take 8).all isDig = true then some (valD (s.take 8)) else none
def readyD (d : Disk) : Int := if d.down = true then 8 else if d.pend = [] then 0 else 7
def logD (d : Disk) : Txt := (d.secs.drop 2).flatten
def curD (a b : Option Nat) : Option (Int × Nat) := match a, b with
  | none, none => none
  | some n, none => some (0, n)
  | none, some m => some (1, m)
  | some n, some m => if m > n then some (1, m) else some (0, n)
def pz : Nat → Txt → Option (List Txt)
  | _, [] => some []
  | 0, _ :: _ => none
  | k + 1, c :: t => (rS (c :: t)).bind fun p => if p.1.length > 2000 then none else (pz k p.2).map (p.1 :: ·)
structure Con where
  list : List Txt
  bytes : Txt
  cur : Int
  deriving Inhabited, DecidableEq
def readJ (d : Disk) : Con × Int :=
  if readyD d ≠ 0 then (⟨[], [], 0⟩, readyD d)
  else if d.secs.length ≤ 2 then (⟨[], [], 0⟩, 22)
  else match curD (numT (d.secs.getD 0 [])) (numT (d.secs.getD 1 [])) with
    | none => (⟨[], [], 0⟩, 22)
    | some (c, n) => if n > (logD d).length then (⟨[], [], 0⟩, 22) else
      match pz n ((logD d).take n) with
      | none => (⟨[], [], 0⟩, 22)
      | some l => if l.length > 500 then (⟨[], [], 0⟩, 22) else (⟨l, (logD d).take n, c⟩, 0)
def formatJ (d : Disk) : Disk × Int :=
  if readyD d ≠ 0 then (zeroD, readyD d)
  else if d.secs.length ≤ 2 then (zeroD, 6)
  else flushD (writeD (writeD d 0 (hdr 0)).1 1 (hdr 0)).1
def putJ (all : Txt) : Nat → Nat → Disk → Disk
  | 0, _, d => d
  | k + 1, i, d => if 16 * i < all.length then putJ all k (i + 1) (writeD d (2 + i) ((all.drop (16 * i)).take 16)).1 else d
def appendJ (d : Disk) (s : Txt) : Disk × Int :=
  if (readJ d).2 ≠ 0 then (zeroD, (readJ d).2)
  else if s.length > 2000 then (zeroD, 1)
  else if (readJ d).1.list.length = 500 ∨ ((readJ d).1.bytes ++ wS s).length > (d.secs.length - 2) * 16 then (zeroD, 6)
  else
    let x := flushD (putJ ((readJ d).1.bytes ++ wS s) ((readJ d).1.bytes ++ wS s).length ((readJ d).1.bytes.length / 16) d)
    if x.2 ≠ 0 then x else flushD (writeD x.1 (1 - (readJ d).1.cur) (hdr ((readJ d).1.bytes ++ wS s).length)).1
end Go.Jr


set_option maxRecDepth 10000
namespace Go.Jr
open Go.Wire
theorem dig_len : ∀ (k n : Nat), (dig k n).length = k
  | 0, _ => rfl
  | k + 1, n => by rw [dig, List.length_append, dig_len k]; rfl
theorem hdr_len (n : Nat) : (hdr n).length = 16 := by rw [hdr, List.length_append, dig_len]
theorem dig_all : ∀ (k n : Nat), (dig k n).all isDig = true
  | 0, _ => rfl
  | k + 1, n => by
    rw [dig, List.all_append, dig_all k]
    have h : n % 10 < 10 := by omega
    have e : (UInt8.ofNat (48 + n % 10)).toNat = 48 + n % 10 := dg_toNat h
    simp only [List.all_cons, List.all_nil, Bool.and_true, Bool.true_and, isDig, e, decide_eq_true_eq]
    omega
theorem val_dig : ∀ (k n : Nat), valD (dig k n) = n % 10 ^ k
  | 0, n => by simp [dig, valD]; omega
  | k + 1, n => by
    have ih := val_dig k (n / 10)
    have h : n % 10 < 10 := by omega
    have e : (UInt8.ofNat (48 + n % 10)).toNat = 48 + n % 10 := dg_toNat h
    unfold valD at ih ⊢
    rw [dig, List.foldl_append, ih, List.foldl_cons, List.foldl_nil, e, Nat.pow_succ, Nat.mul_comm (10 ^ k) 10, Nat.mod_mul]
    omega
theorem num_hdr {n : Nat} (h : n < 100000000) : numT (hdr n) = some n := by
  have h1 : (hdr n).take 8 = dig 8 n := by rw [hdr]; exact List.take_left' (dig_len 8 n)
  have h2 : (hdr n).drop 8 = dig 8 n := by rw [hdr]; exact List.drop_left' (dig_len 8 n)
  rw [numT, h1, h2, if_pos ⟨rfl, dig_all 8 n⟩, val_dig, Nat.mod_eq_of_lt (by omega)]
def Holds (secs : List Txt) (c : Txt) : Prop := ∀ j, 16 * j < c.length → ∃ r, secs.getD (2 + j) [] = (c.drop (16 * j)).take 16 ++ r
theorem flat_take : ∀ (L : List Txt) (c : Txt), (∀ s ∈ L, s.length = 16) → (∀ j, 16 * j < c.length → ∃ r, L.getD j [] = (c.drop (16 * j)).take 16 ++ r) → c.length ≤ 16 * L.length → L.flatten.take c.length = c
  | [], c, _, _, h => by
    have : c = [] := List.length_eq_zero_iff.1 (by simpa using h)
    subst this; rfl
  | s :: L, c, hs, hc, h => by
    have h16 := hs s (by simp)
    by_cases h0 : c = []
    · subst h0; rfl
    have hpos : 0 < c.length := List.length_pos_iff.2 h0
    obtain ⟨r, hr⟩ := hc 0 (by omega)
    simp only [List.getD_cons_zero, Nat.mul_zero, List.drop_zero] at hr
    by_cases hle : c.length ≤ 16
    · rw [List.take_of_length_le hle] at hr
      rw [List.flatten_cons, hr, List.append_assoc]
      exact List.take_left' rfl
    · have h2 : r = [] := by
        have := congrArg List.length hr
        rw [h16, List.length_append, List.length_take] at this
        exact List.length_eq_zero_iff.1 (by omega)
      rw [h2, List.append_nil] at hr
      have ih := flat_take L (c.drop 16) (fun x hx => hs x (by simp [hx])) (fun j hj => by
        rw [List.length_drop] at hj
        obtain ⟨r, hr⟩ := hc (j + 1) (by omega)
        refine ⟨r, ?_⟩
        rw [List.drop_drop, show 16 + 16 * j = 16 * (j + 1) by omega]
        simpa using hr) (by rw [List.length_drop]; simp only [List.length_cons] at h; omega)
      rw [List.flatten_cons, List.take_append, List.take_of_length_le (by omega), h16]
      rw [List.length_drop] at ih
      rw [ih, hr, List.take_append_drop]
theorem log_take {secs : List Txt} {c : Txt} (hs : ∀ s ∈ secs, s.length = 16) (h : Holds secs c) (hl : c.length ≤ 16 * (secs.length - 2)) : ((secs.drop 2).flatten).take c.length = c := by
  refine flat_take (secs.drop 2) c (fun s hx => hs s (List.mem_of_mem_drop hx)) (fun j hj => ?_) (by rw [List.length_drop]; exact hl)
  obtain ⟨r, hr⟩ := h j hj
  refine ⟨r, ?_⟩
  rw [← hr]
  simp [List.getD_eq_getElem?_getD]
theorem log_len {secs : List Txt} (hs : ∀ s ∈ secs, s.length = 16) : ((secs.drop 2).flatten).length = 16 * (secs.length - 2) := by
  have key : ∀ L : List Txt, (∀ s ∈ L, s.length = 16) → L.flatten.length = 16 * L.length := by
    intro L
    induction L with
    | nil => intro _; rfl
    | cons s L ih =>
      intro h
      rw [List.flatten_cons, List.length_append, ih (fun x hx => h x (by simp [hx])), h s (by simp), List.length_cons]
      omega
  rw [key _ (fun s hx => hs s (List.mem_of_mem_drop hx)), List.length_drop]
theorem okS2 {s : Txt} (h : s.length ≤ 2000) : okS s := by unfold okS; omega
theorem pz_wN : ∀ (l : List Txt) (k : Nat), (∀ s ∈ l, s.length ≤ 2000) → (wN wS l).length ≤ k → pz k (wN wS l) = some l
  | [], k, _, _ => by cases k <;> rfl
  | s :: l, k, h, hk => by
    have hs := h s (by simp)
    have e : wN wS (s :: l) = wS s ++ wN wS l := by simp [wN]
    have h2 := wS_len (okS2 hs)
    rw [e, List.length_append] at hk
    obtain ⟨c, t, hct⟩ : ∃ c t, wS s ++ wN wS l = c :: t := by
      cases hx : wS s ++ wN wS l with
      | nil =>
        have := congrArg List.length hx
        rw [List.length_append, List.length_nil] at this
        omega
      | cons c t => exact ⟨c, t, rfl⟩
    obtain ⟨k', rfl⟩ : ∃ k', k = k' + 1 := ⟨k - 1, by omega⟩
    rw [e, hct, pz, ← hct, reads_S.back (okS2 hs)]
    simp only [Option.bind_some]
    rw [if_neg (by omega), pz_wN l k' (fun x hx => h x (by simp [hx])) (by omega)]
    rfl
theorem wN_app {α : Type} (w : α → Txt) (a b : List α) : wN w (a ++ b) = wN w a ++ wN w b := by simp [wN]
theorem wN_one {α : Type} (w : α → Txt) (a : α) : wN w [a] = w a := by simp [wN]
structure Inv (d : Disk) (l : List Txt) (c : Nat) : Prop where
  right : Right d
  up : d.down = false
  pe : d.pend = []
  n3 : 3 ≤ d.secs.length
  len : l.length ≤ 500
  each : ∀ s ∈ l, s.length ≤ 2000
  fit : (wN wS l).length ≤ 16 * (d.secs.length - 2)
  holds : Holds d.secs (wN wS l)
  c01 : c = 0 ∨ c = 1
  hd : d.secs.getD c [] = hdr (wN wS l).length
  ot : ∃ x m, x.length = 8 ∧ d.secs.getD (1 - c) [] = x ++ dig 8 m ∧ m ≤ (wN wS l).length ∧ (c = 1 → m < (wN wS l).length)
theorem Inv.small {d : Disk} {l : List Txt} {c : Nat} (h : Inv d l c) : (wN wS l).length ≤ 8160 := by
  have := h.fit
  have := h.right.hi
  omega
theorem num_half {x : Txt} {m k : Nat} (hx : x.length = 8) (hm : m < 100000000) (h : numT (x ++ dig 8 m) = some k) : k = m := by
  have h1 : (x ++ dig 8 m).take 8 = x := List.take_left' hx
  have h2 : (x ++ dig 8 m).drop 8 = dig 8 m := List.drop_left' hx
  rw [numT, h1, h2] at h
  split at h
  · rename_i hc
    rw [hc.1, val_dig, Nat.mod_eq_of_lt (by omega)] at h
    cases h; rfl
  · cases h
theorem Inv.cur {d : Disk} {l : List Txt} {c : Nat} (h : Inv d l c) : curD (numT (d.secs.getD 0 [])) (numT (d.secs.getD 1 [])) = some ((c : Int), (wN wS l).length) := by
  have hs := h.small
  have hn := num_hdr (n := (wN wS l).length) (by omega)
  obtain ⟨x, m0, hx, hso, hm0, hm1⟩ := h.ot
  have ho : ∀ m, numT (d.secs.getD (1 - c) []) = some m → m ≤ (wN wS l).length ∧ (c = 1 → m < (wN wS l).length) := by
    intro m hm
    rw [hso] at hm
    obtain rfl := num_half hx (by omega) hm
    exact ⟨hm0, hm1⟩
  have hd := h.hd
  rcases h.c01 with rfl | rfl
  · rw [hd, hn]
    cases hm : numT (d.secs.getD 1 []) with
    | none => rfl
    | some m =>
      have := (ho m hm).1
      simp only [curD]
      rw [if_neg (by omega)]; rfl
  · rw [hd, hn]
    cases hm : numT (d.secs.getD 0 []) with
    | none => rfl
    | some m =>
      have := (ho m hm).2 rfl
      simp only [curD]
      rw [if_pos (by omega)]; rfl
theorem Inv.ready {d : Disk} {l : List Txt} {c : Nat} (h : Inv d l c) : readyD d = 0 := by simp [readyD, h.up, h.pe]
theorem Inv.read {d : Disk} {l : List Txt} {c : Nat} (h : Inv d l c) : readJ d = (⟨l, wN wS l, c⟩, 0) := by
  have h3 := h.n3
  have h1 := log_take h.right.se h.holds h.fit
  have h2 := log_len h.right.se
  have h4 := h.fit
  have h5 := h.len
  unfold readJ
  rw [if_neg (by simp [h.ready]), if_neg (by omega), h.cur]
  simp only []
  rw [if_neg (by unfold logD; omega), show logD d = (d.secs.drop 2).flatten from rfl, h1, pz_wN l _ h.each (Nat.le_refl _)]
  simp only []
  rw [if_neg (by omega)]
end Go.Jr


set_option maxRecDepth 10000
namespace Go.Jr
open Go.Wire
def pad (s : Txt) : Txt := s ++ zeros (16 - s.length)
theorem pad_len {s : Txt} (h : s.length ≤ 16) : (pad s).length = 16 := by rw [pad, List.length_append, zeros, List.length_replicate]; omega
theorem writeD_ok {d : Disk} {i : Int} {s : Txt} (hu : d.down = false) (h0 : 0 ≤ i) (h1 : i < d.secs.length) (hs : s.length ≤ 16) (hp : d.pend.length < 512) :
    writeD d i s = (⟨d.secs, d.pend ++ [⟨i, pad s⟩], d.left, false⟩, 0) := by
  rw [writeD, if_neg (by simp [hu]), if_neg (by omega), if_neg (by omega), hu]; rfl
theorem perf_len : ∀ (ws : List Wr) (l : List Txt), (perf l ws).length = l.length
  | [], l => rfl
  | w :: r, l => by rw [perf, perf_len r, List.length_set]
theorem perf_se : ∀ (ws : List Wr) (l : List Txt), (∀ s ∈ l, s.length = 16) → (∀ w ∈ ws, w.text.length = 16) → ∀ s ∈ perf l ws, s.length = 16
  | [], l, h, _ => h
  | w :: r, l, h, hw => by
    refine perf_se r _ (fun s hs => ?_) fun x hx => hw x (by simp [hx])
    rcases List.mem_or_eq_of_mem_set hs with h1 | h1
    · exact h s h1
    · rw [h1]; exact hw w (by simp)
theorem set_se {l : List Txt} {i : Nat} {t : Txt} (h : ∀ s ∈ l, s.length = 16) (ht : t.length = 16) : ∀ s ∈ l.set i t, s.length = 16 := by
  intro s hs
  rcases List.mem_or_eq_of_mem_set hs with h1 | h1
  · exact h s h1
  · rw [h1]; exact ht
theorem getD_se {l : List Txt} {i : Nat} (h : ∀ s ∈ l, s.length = 16) (hi : i < l.length) : (l.getD i []).length = 16 := by
  have : l.getD i [] = l[i] := by simp [hi]
  rw [this]; exact h _ (List.getElem_mem hi)
theorem getD_set {l : List Txt} {i j : Nat} {t : Txt} (hi : i < l.length) : (l.set i t).getD j [] = if j = i then t else l.getD j [] := by
  by_cases h : j = i
  · subst h; simp [hi]
  · rw [if_neg h]
    simp only [List.getD_eq_getElem?_getD, List.getElem?_set]
    rw [if_neg (fun e => h e.symm)]
def chunk (all : Txt) (j : Nat) : Txt := (all.drop (16 * j)).take 16
theorem chunk_le (all : Txt) (j : Nat) : (chunk all j).length ≤ 16 := by rw [chunk, List.length_take]; omega
def wsJ (all : Txt) : Nat → Nat → List Wr
  | 0, _ => []
  | k + 1, i => if 16 * i < all.length then ⟨((2 + i : Nat) : Int), pad (chunk all i)⟩ :: wsJ all k (i + 1) else []
theorem wsJ_lt (all : Txt) : ∀ (k i : Nat), (wsJ all k i) = [] ∨ 16 * (i + (wsJ all k i).length) < all.length + 16
  | 0, _ => .inl rfl
  | k + 1, i => by
    rw [wsJ]
    split
    · rename_i h
      right
      rcases wsJ_lt all k (i + 1) with h1 | h1
      · rw [h1]; simp only [List.length_cons, List.length_nil]; omega
      · simp only [List.length_cons]; omega
    · exact .inl rfl
theorem wsJ_ge (all : Txt) : ∀ (k i : Nat), all.length ≤ 16 * (i + k) → all.length ≤ 16 * (i + (wsJ all k i).length)
  | 0, i, h => by simpa [wsJ] using h
  | k + 1, i, h => by
    rw [wsJ]
    split
    · have := wsJ_ge all k (i + 1) (by omega)
      simp only [List.length_cons]; omega
    · simp only [List.length_nil]; omega
theorem wsJ_text (all : Txt) : ∀ (k i : Nat), ∀ w ∈ wsJ all k i, w.text.length = 16
  | 0, _, w, h => by simp [wsJ] at h
  | k + 1, i, w, h => by
    rw [wsJ] at h
    split at h
    · rcases List.mem_cons.1 h with rfl | h
      · exact pad_len (chunk_le _ _)
      · exact wsJ_text all k (i + 1) w h
    · cases h
theorem wsJ_get (all : Txt) : ∀ (k i m : Nat), m < (wsJ all k i).length → (wsJ all k i).getD m default = ⟨((2 + i + m : Nat) : Int), pad (chunk all (i + m))⟩
  | 0, _, m, h => by simp [wsJ] at h
  | k + 1, i, m, h => by
    rw [wsJ] at h ⊢
    split at h
    · rename_i hc
      rw [if_pos hc]
      cases m with
      | zero => rfl
      | succ m =>
        have := wsJ_get all k (i + 1) m (by simpa using h)
        rw [List.getD_cons_succ, this, show 2 + (i + 1) + m = 2 + i + (m + 1) by omega, show i + 1 + m = i + (m + 1) by omega]
    · cases h
theorem perf_ws (all : Txt) : ∀ (k i m : Nat) (l : List Txt), all.length ≤ 16 * (l.length - 2) → ∀ idx, (perf l ((wsJ all k i).take m)).getD idx [] = if 2 + i ≤ idx ∧ idx < 2 + i + ((wsJ all k i).take m).length then pad (chunk all (idx - 2)) else l.getD idx []
  | 0, i, m, l, _, idx => by
    simp only [wsJ, List.take_nil, perf, List.length_nil]
    rw [if_neg (by omega)]
  | k + 1, i, 0, l, _, idx => by
    have e : ((wsJ all (k + 1) i).take 0) = [] := rfl
    rw [e]
    simp only [perf, List.length_nil]
    rw [if_neg (by omega)]
  | k + 1, i, m + 1, l, hl, idx => by
    rw [wsJ]
    split
    · rename_i hc
      have hi : 2 + i < l.length := by omega
      rw [List.take_succ_cons, perf, perf_ws all k (i + 1) m _ (by rw [List.length_set]; exact hl) idx]
      simp only [Int.toNat_natCast, List.length_cons]
      rw [getD_set hi]
      by_cases h1 : idx = 2 + i
      · rw [if_neg (by omega), if_pos h1, if_pos (by omega), h1, Nat.add_sub_cancel_left]
      · rw [if_neg h1]
        by_cases h2 : 2 + (i + 1) ≤ idx ∧ idx < 2 + (i + 1) + (List.take m (wsJ all k (i + 1))).length
        · rw [if_pos h2, if_pos (by omega)]
        · rw [if_neg h2, if_neg (by omega)]
    · simp only [List.take_nil, perf, List.length_nil]
      rw [if_neg (by omega)]
theorem putJ_eq (all : Txt) : ∀ (k i : Nat) (d : Disk), d.down = false → all.length ≤ 16 * (d.secs.length - 2) → d.secs.length ≤ 512 → d.pend.length ≤ i →
    putJ all k i d = ⟨d.secs, d.pend ++ wsJ all k i, d.left, false⟩
  | 0, i, d, hu, _, _, _ => by rw [putJ, wsJ, List.append_nil, ← hu]
  | k + 1, i, d, hu, hl, h5, hp => by
    rw [putJ, wsJ]
    split
    · rename_i hc
      have hw := writeD_ok (i := (2 : Int) + i) (s := (all.drop (16 * i)).take 16) hu (by omega) (by omega) (by rw [List.length_take]; omega) (by omega)
      have ih := putJ_eq all k (i + 1) ⟨d.secs, d.pend ++ [⟨(2 : Int) + i, pad ((all.drop (16 * i)).take 16)⟩], d.left, false⟩ rfl hl h5 (by simp only [List.length_append, List.length_singleton]; omega)
      rw [hw]
      refine ih.trans ?_
      simp only [List.append_assoc, List.singleton_append]
      rfl
    · rw [List.append_nil, ← hu]
theorem torn {a b c x y : Txt} (ha : a = c ++ x) (hb : b = c ++ y) : ∃ z, a.take 8 ++ b.drop 8 = c ++ z := by
  by_cases h : c.length ≤ 8
  · refine ⟨x.take (8 - c.length) ++ b.drop 8, ?_⟩
    rw [ha, List.take_append, List.take_of_length_le h, List.append_assoc]
  · refine ⟨y, ?_⟩
    rw [ha, hb, List.take_append_of_le_length (by omega), List.drop_append_of_le_length (by omega), ← List.append_assoc, List.take_append_drop]
theorem chunk_pre (code x : Txt) (j : Nat) : ∃ z, pad (chunk (code ++ x) j) = chunk code j ++ z := by
  unfold pad chunk
  by_cases h : 16 * j ≤ code.length
  · rw [List.drop_append_of_le_length h, List.take_append]
    exact ⟨_, by rw [List.append_assoc]⟩
  · rw [List.drop_eq_nil_of_le (show code.length ≤ 16 * j by omega), List.take_nil]
    exact ⟨_, by rw [List.nil_append]⟩
theorem chunk_eq (code x : Txt) {j : Nat} (h : 16 * j + 16 ≤ code.length) : chunk (code ++ x) j = chunk code j := by
  unfold chunk
  rw [List.drop_append_of_le_length (by omega), List.take_append_of_le_length (by rw [List.length_drop]; omega)]
theorem holds_full {secs : List Txt} {code x : Txt} (h : Holds secs code) (hl : (code ++ x).length ≤ 16 * (secs.length - 2)) :
    Holds (perf secs (wsJ (code ++ x) (code ++ x).length (code.length / 16))) (code ++ x) := by
  intro j hj
  have hg := wsJ_ge (code ++ x) (code ++ x).length (code.length / 16) (by omega)
  have hp := perf_ws (code ++ x) (code ++ x).length (code.length / 16) (wsJ (code ++ x) (code ++ x).length (code.length / 16)).length secs hl (2 + j)
  rw [List.take_length] at hp
  rw [hp]
  by_cases h1 : code.length / 16 ≤ j
  · rw [if_pos (by omega), Nat.add_sub_cancel_left]
    exact ⟨_, rfl⟩
  · rw [if_neg (by omega)]
    have := chunk_eq code x (j := j) (by omega)
    unfold chunk at this
    rw [this]
    exact h j (by omega)
theorem holds_torn {secs : List Txt} {code x : Txt} (h : Holds secs code) (hl : (code ++ x).length ≤ 16 * (secs.length - 2)) {m : Nat} (hm : m < (wsJ (code ++ x) (code ++ x).length (code.length / 16)).length) :
    Holds ((perf secs ((wsJ (code ++ x) (code ++ x).length (code.length / 16)).take m)).set (2 + code.length / 16 + m) ((pad (chunk (code ++ x) (code.length / 16 + m))).take 8 ++ ((perf secs ((wsJ (code ++ x) (code ++ x).length (code.length / 16)).take m)).getD (2 + code.length / 16 + m) []).drop 8)) code := by
  intro j hj
  have hp := perf_ws (code ++ x) (code ++ x).length (code.length / 16) m secs hl
  have hlt := (wsJ_lt (code ++ x) (code ++ x).length (code.length / 16)).resolve_left (by intro e; rw [e] at hm; cases hm)
  have htl : ((wsJ (code ++ x) (code ++ x).length (code.length / 16)).take m).length = m := by rw [List.length_take]; omega
  have hidx : 2 + code.length / 16 + m < (perf secs ((wsJ (code ++ x) (code ++ x).length (code.length / 16)).take m)).length := by rw [perf_len]; omega
  rw [getD_set hidx, hp (2 + j), hp (2 + code.length / 16 + m), htl, if_neg (show ¬ (2 + code.length / 16 ≤ 2 + code.length / 16 + m ∧ 2 + code.length / 16 + m < 2 + code.length / 16 + m) by omega)]
  obtain ⟨r, hr⟩ := h j hj
  obtain ⟨z, hz⟩ := chunk_pre code x j
  by_cases h1 : 2 + j = 2 + code.length / 16 + m
  · rw [if_pos h1, ← h1, hr, show code.length / 16 + m = j by omega]
    exact torn hz rfl
  · rw [if_neg h1]
    by_cases h2 : 2 + code.length / 16 ≤ 2 + j ∧ 2 + j < 2 + code.length / 16 + m
    · rw [if_pos h2, Nat.add_sub_cancel_left]
      exact ⟨z, hz⟩
    · rw [if_neg h2]
      exact ⟨r, hr⟩
end Go.Jr


set_option maxRecDepth 10000
namespace Go.Jr
open Go.Wire
theorem flush_all {d : Disk} (hu : d.down = false) (hk : ¬ (0 ≤ d.left ∧ d.left < d.pend.length)) : flushD d = (⟨perf d.secs d.pend, [], if 0 ≤ d.left then d.left - d.pend.length else -1, false⟩, 0) := by
  rw [flushD, if_neg (by simp [hu]), if_neg hk]
theorem flush_torn {d : Disk} (hu : d.down = false) (hk : 0 ≤ d.left ∧ d.left < d.pend.length) :
    flushD d = (⟨(perf d.secs (d.pend.take d.left.toNat)).set (d.pend.getD d.left.toNat default).pos.toNat ((d.pend.getD d.left.toNat default).text.take 8 ++ ((perf d.secs (d.pend.take d.left.toNat)).getD (d.pend.getD d.left.toNat default).pos.toNat []).drop 8), [], -1, true⟩, 8) := by
  rw [flushD, if_neg (by simp [hu]), if_pos hk]
theorem pad_hdr (n : Nat) : pad (hdr n) = hdr n := by
  rw [pad, hdr_len]; simp [zeros]
theorem holds_set {secs : List Txt} {c : Txt} {i : Nat} {t : Txt} (h : Holds secs c) (hi : i < 2) (hl : i < secs.length) : Holds (secs.set i t) c := by
  intro j hj
  rw [getD_set hl, if_neg (by omega)]
  exact h j hj
theorem holds_pre {secs : List Txt} {c x : Txt} (h : Holds secs (c ++ x)) : Holds secs c := by
  intro j hj
  obtain ⟨r, hr⟩ := h j (by rw [List.length_append]; omega)
  rw [hr, List.drop_append_of_le_length (by omega), List.take_append]
  exact ⟨_, by rw [List.append_assoc]⟩
theorem holds_nil (secs : List Txt) : Holds secs [] := fun j hj => absurd hj (by simp)
def dataW (l : List Txt) (s : Txt) : List Wr := wsJ (wN wS l ++ wS s) (wN wS l ++ wS s).length ((wN wS l).length / 16)
section
variable {d : Disk} {l : List Txt} {c : Nat} {s : Txt}
theorem perf_low (hf : (wN wS l ++ wS s).length ≤ 16 * (d.secs.length - 2)) {m i : Nat} (hi : i < 2) : (perf d.secs ((dataW l s).take m)).getD i [] = d.secs.getD i [] := by
  rw [dataW, perf_ws _ _ _ m _ hf i, if_neg (by omega)]
theorem append_start (h : Inv d l c) (hs : s.length ≤ 2000) (hl : l.length < 500) (hf : (wN wS l ++ wS s).length ≤ 16 * (d.secs.length - 2)) :
    appendJ d s = if (flushD ⟨d.secs, dataW l s, d.left, false⟩).2 ≠ 0 then flushD ⟨d.secs, dataW l s, d.left, false⟩
      else flushD (writeD (flushD ⟨d.secs, dataW l s, d.left, false⟩).1 (1 - (c : Int)) (hdr (wN wS l ++ wS s).length)).1 := by
  have hp := putJ_eq (wN wS l ++ wS s) (wN wS l ++ wS s).length ((wN wS l).length / 16) d h.up hf h.right.hi (by rw [h.pe]; simp)
  rw [h.pe, List.nil_append] at hp
  unfold appendJ
  rw [h.read]
  simp only [ne_eq, not_true_eq_false, if_false]
  rw [if_neg (by omega), if_neg (by omega), hp]
  rfl
theorem all_eq (l : List Txt) (s : Txt) : wN wS (l ++ [s]) = wN wS l ++ wS s := by rw [wN_app, wN_one]
theorem append_ok (h : Inv d l c) (hs : s.length ≤ 2000) (hl : l.length < 500) (hf : (wN wS l ++ wS s).length ≤ 16 * (d.secs.length - 2)) (hk : d.left = -1 ∨ ((dataW l s).length : Int) + 1 ≤ d.left) :
    ∃ d', appendJ d s = (d', 0) ∧ Inv d' (l ++ [s]) (1 - c) ∧ d'.secs.length = d.secs.length ∧ (d.left = -1 → d'.left = -1) ∧ d'.secs.getD c [] = hdr (wN wS l).length := by
  have h3 := h.n3
  have hcc : c < 2 := by rcases h.c01 with rfl | rfl <;> omega
  have hw := flush_all (d := ⟨d.secs, dataW l s, d.left, false⟩) rfl (by simp only []; omega)
  have h2 := wS_len (okS2 hs)
  rw [append_start h hs hl hf, hw]
  simp only [ne_eq, not_true_eq_false, if_false]
  have hpl : (perf d.secs (dataW l s)).length = d.secs.length := perf_len _ _
  have hci : (1 : Int) - (c : Int) = ((1 - c : Nat) : Int) := by omega
  rw [writeD_ok (s := hdr (wN wS l ++ wS s).length) rfl (by omega) (by simp only [hpl]; omega) (by rw [hdr_len]; omega) (by simp), pad_hdr]
  simp only [List.nil_append]
  rw [flush_all rfl (by simp only [List.length_singleton]; split <;> omega)]
  simp only [perf, hci, Int.toNat_natCast]
  have hhold := holds_full h.holds hf
  have hse := perf_se (dataW l s) d.secs h.right.se (wsJ_text _ _ _)
  have hlow : ∀ i, i < 2 → (perf d.secs (dataW l s)).getD i [] = d.secs.getD i [] := by
    intro i hi
    have := perf_low (d := d) (l := l) (s := s) hf (m := (dataW l s).length) hi
    rwa [List.take_length] at this
  have hi1 : 1 - c < (perf d.secs (dataW l s)).length := by omega
  have hr := h.right
  refine ⟨_, rfl, ?_, by simp [hpl], by intro e; simp [e], ?_⟩
  · refine ⟨⟨by simp only [List.length_set, hpl]; exact hr.lo, by simp only [List.length_set, hpl]; exact hr.hi, by simp, ?_, ?_, by simp, set_se hse (hdr_len _), by simp⟩, rfl, rfl, by simp only [List.length_set, hpl]; exact h3, by simp; omega, ?_, ?_, ?_, by omega, ?_, ?_⟩
    · simp only [List.length_singleton]; split <;> (try split) <;> omega
    · have := hr.l1
      simp only [List.length_singleton]; split <;> (try split) <;> omega
    · intro x hx
      rcases List.mem_append.1 hx with hx | hx
      · exact h.each x hx
      · rw [List.mem_singleton.1 hx]; exact hs
    · simp only [List.length_set, hpl, all_eq]; exact hf
    · rw [all_eq]
      exact holds_set hhold (by omega) hi1
    · simp only [all_eq]
      rw [getD_set hi1, if_pos rfl]
    · refine ⟨dig 8 (wN wS l).length, (wN wS l).length, dig_len _ _, ?_, ?_, ?_⟩
      · simp only []
        rw [getD_set hi1, if_neg (by omega), show 1 - (1 - c) = c by omega, hlow c hcc, h.hd]; rfl
      · rw [all_eq, List.length_append]; omega
      · intro _; rw [all_eq, List.length_append]; omega
  · simp only []
    rw [getD_set hi1, if_neg (by omega), hlow c hcc, h.hd]
theorem append_cut (h : Inv d l c) (hs : s.length ≤ 2000) (hl : l.length < 500) (hf : (wN wS l ++ wS s).length ≤ 16 * (d.secs.length - 2)) (h0 : 0 ≤ d.left) (h1 : d.left ≤ (dataW l s).length) :
    ∃ secs, appendJ d s = (⟨secs, [], -1, true⟩, 8) ∧ Inv ⟨secs, [], -1, false⟩ l c ∧ secs.length = d.secs.length := by
  have h3 := h.n3
  have hcc : c < 2 := by rcases h.c01 with rfl | rfl <;> omega
  have hr := h.right
  have hci : (1 : Int) - (c : Int) = ((1 - c : Nat) : Int) := by omega
  have hse : ∀ m, ∀ s' ∈ perf d.secs ((dataW l s).take m), s'.length = 16 := fun m => perf_se _ d.secs hr.se fun w hw => wsJ_text _ _ _ w (List.mem_of_mem_take hw)
  have hpl : ∀ W, (perf d.secs W).length = d.secs.length := fun W => perf_len _ _
  obtain ⟨x, m0, hx, hso, hm0, hm1⟩ := h.ot
  have mk : ∀ secs : List Txt, secs.length = d.secs.length → (∀ s' ∈ secs, s'.length = 16) → Holds secs (wN wS l) → secs.getD c [] = d.secs.getD c [] → (∃ y, y.length = 8 ∧ secs.getD (1 - c) [] = y ++ dig 8 m0) → Inv ⟨secs, [], -1, false⟩ l c := by
    rintro secs g1 g2 g3 g4 ⟨y, g5, g6⟩
    refine ⟨⟨by simp only [g1]; exact hr.lo, by simp only [g1]; exact hr.hi, by simp, by simp, by simp, by simp, g2, by simp⟩, rfl, rfl, by simp only [g1]; exact h3, h.len, h.each, by simp only [g1]; exact h.fit, g3, h.c01, by rw [g4]; exact h.hd, y, m0, g5, g6, hm0, hm1⟩
  rw [append_start h hs hl hf]
  by_cases hlt : d.left < (dataW l s).length
  · have hk : d.left.toNat < (dataW l s).length := by omega
    rw [flush_torn (d := ⟨d.secs, dataW l s, d.left, false⟩) rfl ⟨h0, hlt⟩]
    simp only [ne_eq]
    rw [if_pos (by decide)]
    have hg : (dataW l s).getD d.left.toNat default = _ := wsJ_get (wN wS l ++ wS s) (wN wS l ++ wS s).length ((wN wS l).length / 16) d.left.toNat hk
    rw [hg]
    simp only [Int.toNat_natCast]
    have hlt2 := (wsJ_lt (wN wS l ++ wS s) (wN wS l ++ wS s).length ((wN wS l).length / 16)).resolve_left (by intro e; unfold dataW at hk; rw [e] at hk; cases hk)
    unfold dataW at hk
    have hi : 2 + (wN wS l).length / 16 + d.left.toNat < d.secs.length := by omega
    refine ⟨_, rfl, mk _ (by rw [List.length_set, hpl]) ?_ (holds_torn h.holds hf hk) ?_ ⟨x, hx, ?_⟩, by rw [List.length_set, hpl]⟩
    · refine set_se (hse _) ?_
      have e1 := pad_len (chunk_le (wN wS l ++ wS s) ((wN wS l).length / 16 + d.left.toNat))
      have e2 := getD_se (i := 2 + (wN wS l).length / 16 + d.left.toNat) (hse d.left.toNat) (by rw [hpl]; exact hi)
      rw [List.length_append, List.length_take, List.length_drop, e1, e2]; rfl
    · rw [getD_set (by rw [hpl]; exact hi), if_neg (by omega)]
      exact perf_low hf hcc
    · rw [getD_set (by rw [hpl]; exact hi), if_neg (by omega)]
      exact (perf_low hf (by omega)).trans hso
  · have hw := flush_all (d := ⟨d.secs, dataW l s, d.left, false⟩) rfl (by simp only []; omega)
    rw [hw]
    simp only [ne_eq, not_true_eq_false, if_false]
    rw [writeD_ok (s := hdr (wN wS l ++ wS s).length) rfl (by omega) (by simp only [hpl]; omega) (by rw [hdr_len]; omega) (by simp), pad_hdr]
    simp only [List.nil_append]
    have hl0 : (if 0 ≤ d.left then d.left - ((dataW l s).length : Int) else -1) = 0 := by rw [if_pos h0]; omega
    rw [hl0, flush_torn rfl (by simp)]
    simp only [Int.toNat_zero, List.take_zero, perf, List.getD_cons_zero, hci, Int.toNat_natCast]
    have hlow : ∀ i, i < 2 → (perf d.secs (dataW l s)).getD i [] = d.secs.getD i [] := by
      intro i hi
      have := perf_low (d := d) (l := l) (s := s) hf (m := (dataW l s).length) hi
      rwa [List.take_length] at this
    have hsa := hse (dataW l s).length
    rw [List.take_length] at hsa
    have hi1 : 1 - c < (perf d.secs (dataW l s)).length := by rw [hpl]; omega
    have e8 : (hdr (wN wS l ++ wS s).length).take 8 = dig 8 (wN wS l ++ wS s).length := by rw [hdr]; exact List.take_left' (dig_len _ _)
    have d8 : ((perf d.secs (dataW l s)).getD (1 - c) []).drop 8 = dig 8 m0 := by rw [hlow _ (by omega), hso]; exact List.drop_left' hx
    rw [e8, d8]
    refine ⟨_, rfl, mk _ (by rw [List.length_set, hpl]) ?_ (holds_set (holds_pre (holds_full h.holds hf)) (by omega) hi1) ?_ ⟨dig 8 (wN wS l ++ wS s).length, dig_len _ _, ?_⟩, by rw [List.length_set, hpl]⟩
    · exact set_se hsa (by rw [List.length_append, dig_len, dig_len])
    · rw [getD_set hi1, if_neg (by omega)]
      exact hlow c hcc
    · rw [getD_set hi1, if_pos rfl]
end
theorem format_ok {n : Nat} (h : 3 ≤ n) (hn : n ≤ 512) : ∃ d, formatJ (newD n) = (d, 0) ∧ Inv d [] 0 ∧ d.secs.length = n ∧ d.left = -1 ∧ d.secs.getD 1 [] = hdr 0 := by
  have hl : (newD n).secs.length = n := by simp [newD]
  have hr : readyD (newD n) = 0 := rfl
  have hz : ∀ s ∈ (newD n).secs, s.length = 16 := by
    intro s hs
    simp only [newD, List.mem_replicate] at hs
    rw [hs.2, zeros, List.length_replicate]
  unfold formatJ
  rw [if_neg (by simp [hr]), if_neg (by omega)]
  rw [writeD_ok (d := newD n) (i := 0) (s := hdr 0) rfl (by omega) (by omega) (by rw [hdr_len]; omega) (by simp [newD])]
  simp only []
  rw [writeD_ok (s := hdr 0) rfl (by omega) (by simp only [hl]; omega) (by rw [hdr_len]; omega) (by simp [newD])]
  simp only [pad_hdr]
  rw [flush_all rfl (by simp [newD])]
  have e : perf (newD n).secs ((newD n).pend ++ [⟨0, hdr 0⟩] ++ [⟨1, hdr 0⟩]) = ((newD n).secs.set 0 (hdr 0)).set 1 (hdr 0) := rfl
  rw [e]
  have hl2 : (((newD n).secs.set 0 (hdr 0)).set 1 (hdr 0)).length = n := by rw [List.length_set, List.length_set, hl]
  have g1 : (((newD n).secs.set 0 (hdr 0)).set 1 (hdr 0)).getD 1 [] = hdr 0 := by rw [getD_set (by rw [List.length_set, hl]; omega), if_pos rfl]
  have g0 : (((newD n).secs.set 0 (hdr 0)).set 1 (hdr 0)).getD 0 [] = hdr 0 := by rw [getD_set (by rw [List.length_set, hl]; omega), if_neg (by omega), getD_set (by omega), if_pos rfl]
  refine ⟨_, rfl, ⟨⟨by simp only [hl2]; omega, by simp only [hl2]; omega, by simp, by simp [newD], by simp [newD], by simp, set_se (set_se hz (hdr_len _)) (hdr_len _), by simp⟩, rfl, rfl, by simp only [hl2]; omega, by simp, by simp, by simp [wN], holds_nil _, .inl rfl, g0, dig 8 0, 0, dig_len _ _, g1, by simp, by simp⟩, hl2, by simp [newD], g1⟩
end Go.Jr


set_option maxRecDepth 100000
set_option maxHeartbeats 4000000
namespace Go.Abs
open Go.Proofs Go.Wire Go.RowKit Go.Jr
theorem tab_two {n τ : Nat} {a b x : O} (h : tabOf n [a, b] τ = some x) : (τ = n ∧ x = a) ∨ (τ = n + 1 ∧ x = b) := by
  unfold tabOf at h
  split at h
  · rename_i hle
    obtain ⟨k, rfl⟩ : ∃ k, τ = n + k := ⟨τ - n, by omega⟩
    rw [Nat.add_sub_cancel_left] at h
    match k, h with
    | 0, h => simp at h; exact .inl ⟨rfl, h.symm⟩
    | 1, h => simp at h; exact .inr ⟨rfl, h.symm⟩
    | k + 2, h => simp at h
  · cases h
theorem tab_two' {n τ : Nat} {a b : O} (h : tabOf n [a, b] τ ≠ none) : τ = n ∨ τ = n + 1 := by
  cases e : tabOf n [a, b] τ with
  | none => exact absurd e h
  | some x => exact (tab_two e).imp And.left And.left
theorem tab_two0 {n : Nat} {a b : O} : tabOf n [a, b] n = some a := by simp [tabOf]
theorem tab_two1 {n : Nat} {a b : O} : tabOf n [a, b] (n + 1) = some b := by simp [tabOf]
structure Row (w w' : World) (e sz : Nat) (rows : List (List C)) (g : Nat) (cap : Nat) : Prop where
  fresh : w.heap.size ≤ g
  ex : ∃ cur, w'.heap[g]? = some (.cells cur e (0, 0)) ∧ cur.size = cap * sz ∧ ∀ (i j : Nat) r c, rows[i]? = some r → r[j]? = some c → ∃ v, cur[i * sz + j]? = some v ∧ ∀ Z, PRep w' Z c v
  pos : 0 < sz
  le : rows.length ≤ cap
  max : cap ≤ maxLen
  len : ∀ r, r ∈ rows → r.length = sz
theorem Row.orep {w w' : World} {e sz : Nat} {rows : List (List C)} {g cap : Nat} (h : Row w w' e sz rows g cap) {Z : Bk → Prop} {κ : Kap} {o : Nat → Option O} {τ : Nat} (hκ : κ τ = some g) : ORep w' Z κ o τ (.arr e sz none rows) := by
  obtain ⟨cur, h1, h2, h3⟩ := h.ex
  exact .inr ⟨g, cur, cap, hκ, h1, h.pos, h2, h.le, h.max, by simp, h.len, fun i j r c hr hc => by obtain ⟨v, hv, hp⟩ := h3 i j r c hr hc; exact ⟨v, hv, hp _⟩⟩
theorem rrep2 {w w' : World} {Z : Bk → Prop} {e1 sz1 e2 sz2 : Nat} {rows1 rows2 : List (List C)} {g1 cap1 : Nat} {v2 v3 v4 : Value} {c3 c4 : C} (hG : GlobB (base w)) (hk : Kept w w')
    (h1 : Row w w' e1 sz1 rows1 g1 cap1) (h2 : (v2 = .slice none 0 0 ∧ rows2 = []) ∨ ∃ g2 cap2, v2 = .slice (some ⟨g2, 0, none⟩) rows2.length cap2 ∧ g2 ≠ g1 ∧ Row w w' e2 sz2 rows2 g2 cap2)
    (h3 : v3.oneCell' = true ∧ ∀ Z, PRep w' Z c3 v3) (h4 : v4.oneCell' = true ∧ ∀ Z, PRep w' Z c4 v4) :
    RRep (base w) Z (.agk [.newl e1 sz1 none rows1, .newl e2 sz2 none rows2, .c c3, .c c4]) (.agg #[.slice (some ⟨g1, 0, none⟩) rows1.length cap1, v2, v3, v4]) w' := by
  intro n
  obtain ⟨k2, hk2, hk2'⟩ : ∃ k2 : Option Nat, ((k2 = none ∧ v2 = .slice none 0 0 ∧ rows2 = []) ∨ ∃ g2 cap2, k2 = some g2 ∧ v2 = .slice (some ⟨g2, 0, none⟩) rows2.length cap2 ∧ g2 ≠ g1 ∧ Row w w' e2 sz2 rows2 g2 cap2) ∧ (∀ b, k2 = some b → w.heap.size ≤ b ∧ b < w'.heap.size ∧ b ≠ g1) := by
    rcases h2 with ⟨a, b⟩ | ⟨g2, cap2, a, b, c⟩
    · exact ⟨none, .inl ⟨rfl, a, b⟩, fun _ h => by cases h⟩
    · obtain ⟨cur, hc, _⟩ := c.ex
      exact ⟨some g2, .inr ⟨g2, cap2, rfl, a, b, c⟩, fun _ h => by cases h; exact ⟨c.fresh, heap_lt hc, b⟩⟩
  obtain ⟨κ, hκ0, hκ1⟩ : ∃ κ : Kap, κ n = some g1 ∧ κ (n + 1) = k2 := ⟨fun τ => if τ = n then some g1 else if τ = n + 1 then k2 else none, if_pos rfl, by simp⟩
  refine ⟨κ, hk, hG, fun τ b ho h => ?_, fun τ τ' b ho ho' h h' => ?_, fun τ ob h => ?_, fun s => ?_⟩
  · rcases tab_two' ho with rfl | rfl
    · rw [hκ0] at h; cases h
      obtain ⟨cur, hc, _⟩ := h1.ex
      exact ⟨Nat.not_lt.2 h1.fresh, heap_lt hc⟩
    · rw [hκ1] at h
      have := hk2' b h
      exact ⟨Nat.not_lt.2 this.1, this.2.1⟩
  · rcases tab_two' ho with rfl | rfl <;> rcases tab_two' ho' with rfl | rfl
    · rfl
    · rw [hκ0] at h; rw [hκ1] at h'; cases h
      exact absurd rfl (hk2' _ h').2.2
    · rw [hκ1] at h; rw [hκ0] at h'; cases h'
      exact absurd rfl (hk2' _ h).2.2
    · rfl
  · rcases tab_two h with ⟨rfl, rfl⟩ | ⟨rfl, rfl⟩
    · exact h1.orep hκ0
    · rcases hk2 with ⟨a, b, c⟩ | ⟨g2, cap2, a, b, c, d⟩
      · exact .inl ⟨hκ1.trans a, c, by simp⟩
      · exact d.orep (hκ1.trans a)
  · by_cases hs : s = 0
    · subst hs
      simp only [if_true]
      refine ⟨_, rfl, rfl, fun j k v hk hv => ?_⟩
      match j, hk, hv with
      | 0, hk, hv =>
        simp at hv; subst hv
        cases hk
        refine ⟨rfl, fun e' sz' nl' rows' h => ?_⟩
        rw [show (V.agk [.newl e1 sz1 none rows1, .newl e2 sz2 none rows2, .c c3, .c c4]).reg n = (.agk [.own n, .own (n + 1), .c c3, .c c4], [.arr e1 sz1 none rows1, .arr e2 sz2 none rows2]) from rfl] at h
        rw [tab_two0] at h; cases h
        obtain ⟨cur, hc, hz, _⟩ := h1.ex
        exact .inr ⟨g1, cur, cap1, hκ0, hc, hz, rfl⟩
      | 1, hk, hv =>
        simp at hv; subst hv
        cases hk
        refine ⟨by rcases hk2 with ⟨_, rfl, _⟩ | ⟨_, _, _, rfl, _⟩ <;> rfl, fun e' sz' nl' rows' h => ?_⟩
        rw [show (V.agk [.newl e1 sz1 none rows1, .newl e2 sz2 none rows2, .c c3, .c c4]).reg n = (.agk [.own n, .own (n + 1), .c c3, .c c4], [.arr e1 sz1 none rows1, .arr e2 sz2 none rows2]) from rfl] at h
        rw [tab_two1] at h; cases h
        rcases hk2 with ⟨a, b, c⟩ | ⟨g2, cap2, a, b, c, d⟩
        · exact .inl ⟨hκ1.trans a, b⟩
        · obtain ⟨cur, hc, hz, _⟩ := d.ex
          exact .inr ⟨g2, cur, cap2, hκ1.trans a, hc, hz, b⟩
      | 2, hk, hv => simp at hv; subst hv; cases hk; exact ⟨h3.1, h3.2 _⟩
      | 3, hk, hv => simp at hv; subst hv; cases hk; exact ⟨h4.1, h4.2 _⟩
      | j + 4, hk, hv => simp at hv
    · simp only [hs, if_false]; trivial
end Go.Abs


set_option maxRecDepth 100000
set_option maxHeartbeats 4000000
namespace Go.Abs
open Go.Proofs Go.Wire Go.RowKit Go.Jr
def C.sc : C → Bool
  | .int _ _ => true
  | .bool _ => true
  | .str _ => true
  | _ => false
def valC (c : C) : Value := valOf (.k (.c c))
theorem sc_val {w : World} {Z : Bk → Prop} {c : C} {v : Value} (hc : c.sc = true) (h : PRep w Z c v) : v = valC c := by
  cases h <;> first | rfl | cases hc
theorem sc_rep {w : World} {Z : Bk → Prop} {c : C} (hc : c.sc = true) : PRep w Z c (valC c) := by
  cases c <;> first | exact .int _ _ | exact .bool _ | exact .str _ | cases hc
theorem sc_one {c : C} (hc : c.sc = true) : (valC c).oneCell' = true := (sc_rep (w := default) (Z := fun _ => False) hc).oneCell
theorem flat_get {α : Type} {sz : Nat} (h0 : 0 < sz) : ∀ (rows : List (List α)) (k : Nat) (c : α), (∀ r, r ∈ rows → r.length = sz) → rows.flatten[k]? = some c → ∃ i j r, rows[i]? = some r ∧ r[j]? = some c ∧ k = i * sz + j
  | [], k, c, _, h => by simp at h
  | r :: rows, k, c, hl, h => by
    have hr := hl r List.mem_cons_self
    rw [List.flatten_cons] at h
    by_cases hk : k < sz
    · rw [List.getElem?_append_left (by omega)] at h
      exact ⟨0, k, r, rfl, h, by omega⟩
    · rw [List.getElem?_append_right (by omega)] at h
      obtain ⟨i, j, r', h1, h2, h3⟩ := flat_get h0 rows (k - r.length) c (fun r' hr' => hl r' (List.mem_cons_of_mem _ hr')) h
      exact ⟨i + 1, j, r', h1, h2, by rw [Nat.add_mul]; omega⟩
theorem flat_at {α : Type} {sz : Nat} : ∀ (rows : List (List α)) (i j : Nat) (r : List α) (c : α), (∀ r, r ∈ rows → r.length = sz) → rows[i]? = some r → r[j]? = some c → rows.flatten[i * sz + j]? = some c
  | [], i, j, r, c, _, h, _ => by simp at h
  | r0 :: rows, 0, j, r, c, hl, h, hc => by
    cases h
    have hj := (List.getElem?_eq_some_iff.1 hc).1
    rw [List.flatten_cons, Nat.zero_mul, Nat.zero_add, List.getElem?_append_left hj]
    exact hc
  | r0 :: rows, i + 1, j, r, c, hl, h, hc => by
    have hr := hl r0 List.mem_cons_self
    rw [List.flatten_cons, Nat.add_mul, List.getElem?_append_right (by omega), show i * sz + 1 * sz + j - r0.length = i * sz + j by omega]
    exact flat_at rows i j r c (fun r' hr' => hl r' (List.mem_cons_of_mem _ hr')) h hc
theorem flat_len {α : Type} {sz : Nat} : ∀ (rows : List (List α)), (∀ r, r ∈ rows → r.length = sz) → rows.flatten.length = rows.length * sz
  | [], _ => by simp
  | r0 :: rows, hl => by
    rw [List.flatten_cons, List.length_append, flat_len rows fun r' hr' => hl r' (List.mem_cons_of_mem _ hr'), hl r0 List.mem_cons_self, List.length_cons, Nat.add_mul]
    omega
def cellsC (rows : List (List C)) : List Value := rows.flatten.map valC
structure Plain (sz : Nat) (rows : List (List C)) : Prop where
  pos : 0 < sz
  len : ∀ r, r ∈ rows → r.length = sz
  sc : ∀ r, r ∈ rows → ∀ c, c ∈ r → c.sc = true
theorem Plain.clen {sz : Nat} {rows : List (List C)} (h : Plain sz rows) : (cellsC rows).length = rows.length * sz := by
  rw [cellsC, List.length_map, flat_len rows h.len]
theorem Plain.one {sz : Nat} {rows : List (List C)} (h : Plain sz rows) : ∀ u ∈ cellsC rows, u.oneCell' = true := by
  intro u hu
  obtain ⟨c, hc, rfl⟩ := List.mem_map.1 hu
  obtain ⟨r, hr, hcr⟩ := List.mem_flatten.1 hc
  exact sc_one (h.sc r hr c hcr)
theorem Plain.at {sz : Nat} {rows : List (List C)} (h : Plain sz rows) {i j : Nat} {r : List C} {c : C} (hr : rows[i]? = some r) (hc : r[j]? = some c) : (cellsC rows)[i * sz + j]? = some (valC c) ∧ c.sc = true := by
  refine ⟨?_, h.sc r (List.mem_of_getElem? hr) c (List.mem_of_getElem? hc)⟩
  rw [cellsC, List.getElem?_map, flat_at rows i j r c h.len hr hc]; rfl
theorem Plain.slice {sz : Nat} {rows : List (List C)} (h : Plain sz rows) {w : World} {Z : Bk → Prop} {v : Value} (hv : PRep w Z (lstC sz rows) v) :
    ∃ p cap, v = .slice p rows.length cap ∧ (0 < rows.length → ∃ b o, p = some ⟨b, o, none⟩ ∧ ∀ j u, (cellsC rows)[j]? = some u → w.cell? ⟨b, o + j, none⟩ = some u) ∧ (0 < rows.length → rows.length ≤ cap) := by
  unfold lstC at hv
  by_cases h0 : rows = []
  · subst h0
    have h' : PRep w Z (.list 0 none []) v := hv
    generalize hc : C.list 0 none [] = c at h'
    cases h' with
    | nil => exact ⟨none, 0, rfl, fun hk => absurd hk (by simp), fun hk => absurd hk (by simp)⟩
    | emp _ _ a => exact ⟨some a, 0, rfl, fun hk => absurd hk (by simp), fun hk => absurd hk (by simp)⟩
    | list b o cap sz nl rws val =>
      injection hc with _ _ hr
      subst hr
      exact ⟨some ⟨b, o, none⟩, cap, rfl, fun hk => absurd hk (by simp), fun hk => absurd hk (by simp)⟩
    | _ => cases hc
  · have e : (if rows.isEmpty = true then 0 else sz) = sz := by cases rows <;> simp_all
    rw [e] at hv
    generalize hc : C.list sz none rows = c at hv
    cases hv with
    | nil => injection hc with _ _ hr; exact absurd hr h0
    | emp => injection hc with _ _ hr; exact absurd hr h0
    | list b o cap sz nl rws val h1 h2 h3 h4 h5 h6 h7 =>
      injection hc with hs _ hr
      subst hs hr
      refine ⟨some ⟨b, o, none⟩, cap, rfl, fun _ => ⟨b, o, rfl, fun k u hu => ?_⟩, fun _ => h2⟩
      rw [cellsC, List.getElem?_map] at hu
      obtain ⟨c, hc, rfl⟩ := Option.map_eq_some_iff.1 hu
      obtain ⟨i, j, r, g1, g2, rfl⟩ := flat_get h.pos rows k c h.len hc
      rw [h6 i j r c g1 g2, sc_val (h.sc r (List.mem_of_getElem? g1) c (List.mem_of_getElem? g2)) (h7 i j r c g1 g2)]
    | _ => cases hc
theorem plain_strs (l : List Txt) : Plain 1 (strs l) := by
  refine ⟨by decide, fun r hr => ?_, fun r hr c hc => ?_⟩ <;> obtain ⟨s, _, rfl⟩ := List.mem_map.1 hr
  · rfl
  · simp [encS] at hc; subst hc; rfl
def encW (w : Wr) : List C := [.int .i64 w.pos, .str w.text]
def wrs (l : List Wr) : List (List C) := l.map encW
@[simp] theorem wrs_len (l : List Wr) : (wrs l).length = l.length := by simp [wrs]
theorem plain_wrs (l : List Wr) : Plain 2 (wrs l) := by
  refine ⟨by decide, fun r hr => ?_, fun r hr c hc => ?_⟩ <;> obtain ⟨s, _, rfl⟩ := List.mem_map.1 hr
  · rfl
  · simp [encW] at hc; rcases hc with rfl | rfl <;> rfl
def encD (d : Disk) : List C := [lstC 1 (strs d.secs), lstC 2 (wrs d.pend), .int .i64 d.left, .bool d.down]
abbrev dV (d : Disk) : V := .agg (encD d)
abbrev freshV (d : Disk) : V := .agk [.newl 9 1 none (strs d.secs), .newl 52 2 none (wrs d.pend), .c (.int .i64 d.left), .c (.bool d.down)]
theorem row_of_owns {w w' : World} {e sz n B : Nat} {rows : List (List C)} {v : Value} {g : Nat} (h : Plain sz rows) (hw : w'.ownsRow B e sz v n (cellsC rows)) (hn : n = rows.length) (hB : w.heap.size ≤ B) (hg : g < B) :
    (v = .slice none 0 0 ∧ rows = []) ∨ ∃ g2 cap2, v = .slice (some ⟨g2, 0, none⟩) rows.length cap2 ∧ g2 ≠ g ∧ Row w w' e sz rows g2 cap2 := by
  subst hn
  rcases hw.2 with ⟨h1, h2⟩ | ⟨g2, cap, cur, h1, h2, h3, h4, h5, h6, h7⟩
  · exact .inl ⟨h1, List.eq_nil_of_length_eq_zero h2⟩
  · refine .inr ⟨g2, cap, h1, by omega, by omega, ⟨cur, h3, h6, fun i j r c hr hc => ⟨valC c, ?_, fun Z => sc_rep (h.at hr hc).2⟩⟩, h.pos, h4, h5, h.len⟩
    have := (h.at hr hc).1
    rw [← h7, List.getElem?_take] at this
    split at this
    · simpa using this
    · cases this
theorem s36 (d : Disk) (h : Right d) : Spec Tryz.prog 55 [dV d] (fun r => r = freshV d) := by
  refine ⟨callable_at (by kernel_rfl), fun w Z vs hG hz ha => ?_⟩
  obtain ⟨l⟩ := vs
  match l, ha with
  | [], ha => exact absurd ha.1 (by simp)
  | _ :: _ :: _, ha => exact absurd ha.1 (by simp)
  | [v], ha =>
    obtain ⟨cs, rfl, hl, hr⟩ := (ha.2 0 _ v rfl rfl).2
    obtain ⟨l⟩ := cs
    match l, hl with
    | [x1, x2, x3, x4], _ =>
      obtain ⟨p1, k1, rfl, q1, m1⟩ := (plain_strs d.secs).slice (hr 0 _ x1 rfl rfl)
      obtain ⟨p2, k2, rfl, q2, m2⟩ := (plain_wrs d.pend).slice (hr 1 _ x2 rfl rfl)
      have e3 := prep_int (hr 2 _ x3 rfl rfl)
      have e4 := prep_bool (hr 3 _ x4 rfl rfl)
      subst e3 e4
      have h0 : 0 < (strs d.secs).length := by rw [strs_len]; exact h.lo
      obtain ⟨b1, o1, rfl, g1⟩ := q1 h0
      refine (fresh36 b1 o1 (strs d.secs).length k1 (cellsC (strs d.secs)) p2 (wrs d.pend).length k2 (cellsC (wrs d.pend)) d.left d.down w (by rw [strs_len]; exact h.hi) (by rw [(plain_strs _).clen]; omega) (plain_strs _).one h0 g1 (plain_wrs _).clen (by rw [wrs_len]; exact h.pe) q2 (plain_wrs _).one).mono ?_
      rintro e w' ⟨g, v', rfl, hg, hh, ⟨B, ho, hgB⟩, hb⟩
      refine ⟨_, _, rfl, rfl, fun τ => rfl, ?_⟩
      have hk := kept_of_below hb
      refine rrep2 hG hk ⟨hg, ⟨_, hh, ?_, fun i j r c hr hc => ⟨valC c, ?_, fun Z => sc_rep ((plain_strs _).at hr hc).2⟩⟩, by decide, Nat.le_refl _, ?_, (plain_strs _).len⟩ (row_of_owns (plain_wrs _) ho rfl (by omega) hgB) ⟨rfl, fun Z => .int _ _⟩ ⟨rfl, fun Z => .bool _⟩
      · rw [List.size_toArray, (plain_strs _).clen]
      · rw [List.getElem?_toArray]; exact ((plain_strs _).at hr hc).1
      · have := h.hi; rw [strs_len]; unfold maxLen; omega
end Go.Abs


set_option maxRecDepth 100000
set_option maxHeartbeats 8000000
namespace Go.Abs
open Go.Proofs Go.Wire Go.RowKit Go.Jr
theorem dig_cons : ∀ (k n : Nat), dig (k + 1) n = UInt8.ofNat (48 + n / 10 ^ k % 10) :: dig k n
  | 0, n => by simp [dig]
  | k + 1, n => by
    rw [dig, dig_cons k (n / 10), Nat.div_div_eq_div_mul, ← Nat.pow_succ', dig, List.cons_append]
def stH (n k : Nat) : Txt := List.replicate (8 - k) 48 ++ dig k n
theorem stH_len {n k : Nat} (h : k ≤ 8) : (stH n k).length = 8 := by rw [stH, List.length_append, List.length_replicate, dig_len]; omega
theorem stH_step {n k : Nat} (h : k < 8) : stH n (k + 1) = (stH n k).set (7 - k) (UInt8.ofNat (48 + n / 10 ^ k % 10)) := by
  obtain ⟨m, hm⟩ : ∃ m, 8 - k = m + 1 := ⟨7 - k, by omega⟩
  rw [stH, stH, dig_cons, hm, show 8 - (k + 1) = m by omega, show 7 - k = m by omega, List.replicate_succ', List.append_assoc, List.set_append_right _ _ (by simp)]
  simp
theorem dig_zero (n k : Nat) (h : n / 10 ^ k = 0) : ∀ j, dig (k + j) n = List.replicate j 48 ++ dig k n
  | 0 => by simp
  | j + 1 => by
    rw [← Nat.add_assoc, dig_cons, dig_zero n k h j, Nat.pow_add, ← Nat.div_div_eq_div_mul, h, Nat.zero_div, List.replicate_succ]
    rfl
theorem stH_end {n k : Nat} (h : k ≤ 8) (hn : n / 10 ^ k = 0) : stH n k = dig 8 n := by
  have := dig_zero n k hn (8 - k)
  rw [show k + (8 - k) = 8 by omega] at this
  rw [this, stH]
def Holds8 (w : World) (g : Nat) (l : Txt) : Prop := ∃ cur : Array Value, w.heap[g]? = some (.cells cur 5 (cur.size, cur.size + 1)) ∧ ∀ j, j < 8 → cur[j]? = some (.int .u8 (l.getD j 0).toNat)
theorem Holds8.cell {w : World} {g : Nat} {l : Txt} (h : Holds8 w g l) {j : Nat} (hj : j < 8) : w.cell? ⟨g, j, none⟩ = some (.int .u8 (l.getD j 0).toNat) := by
  obtain ⟨cur, h1, h2⟩ := h
  simp only [World.cell?, h1]
  exact h2 j hj
theorem Holds8.size {w : World} {g : Nat} {l : Txt} (h : Holds8 w g l) : ∃ cur : Array Value, w.heap[g]? = some (.cells cur 5 (cur.size, cur.size + 1)) ∧ 8 ≤ cur.size := by
  obtain ⟨cur, h1, h2⟩ := h
  refine ⟨cur, h1, ?_⟩
  have := h2 7 (by decide)
  have := (Array.getElem?_eq_some_iff.1 this).1
  omega
theorem Holds8.frozen {w : World} {g : Nat} {l : Txt} (h : Holds8 w g l) {j : Nat} (hj : j < 8) : w.frozen? ⟨g, j, none⟩ = false := by
  obtain ⟨cur, h1, h2⟩ := h.size
  simp [World.frozen?, h1]
  omega
theorem Holds8.set {w : World} {g : Nat} {l : Txt} (h : Holds8 w g l) (hl : l.length = 8) {j : Nat} (hj : j < 8) (b : UInt8) : Holds8 (w.setCell ⟨g, j, none⟩ (.int .u8 b.toNat)) g (l.set j b) := by
  obtain ⟨cur, h1, h2⟩ := h
  refine ⟨cur.setIfInBounds j (.int .u8 b.toNat), by simp [World.setCell, Array.getElem?_modify, h1], fun i hi => ?_⟩
  rw [Array.getElem?_setIfInBounds]
  have h3 := h2 i hi
  have hs := (Array.getElem?_eq_some_iff.1 h3).1
  by_cases e : j = i
  · subst e
    simp [hl, hj, hs]
  · rw [if_neg e, h3]
    simp [List.getD_eq_getElem?_getD, List.getElem?_set, e]
theorem Holds8.new (n : Nat) (w : World) : Holds8 (Go.Lib.bytesWorld w 5 ⟨#[48, 48, 48, 48, 48, 48, 48, 48]⟩) w.heap.size (stH n 0) := by
  refine ⟨_, Go.Lib.bytesWorld_at_new w 5 _, fun j hj => ?_⟩
  have := Go.Lib.bytesWorld_cell w 5 ⟨#[48, 48, 48, 48, 48, 48, 48, 48]⟩ j hj
  simp only [World.cell?, Go.Lib.bytesWorld_at_new] at this
  exact this
theorem h30 (n : Nat) (hn : n < 100000000) (w : World) (hG : GlobB (base w)) :
    Calls Tryz.prog 60 #[.int .i64 n] w fun e w' => e = .returned (.string ⟨(hdr n).toArray⟩) ∧ Below w.heap.size w w' := by
  have hcv : ∀ w : World, (convert 9 90 (.string ⟨#[48, 48, 48, 48, 48, 48, 48, 48]⟩)).run Tryz.prog w = .ok (.slice (some ⟨w.heap.size, 0, none⟩) 8 (grownCap w 8 0 5)) (Go.Lib.bytesWorld w 5 ⟨#[48, 48, 48, 48, 48, 48, 48, 48]⟩) := fun w => Go.Lib.run_convert_string_bytes w 9 90 5 _ Tryz.underlying9 Tryz.underlying90 Tryz.underlying5
  go_enter Tryz.func60, Tryz.ntmps60
  go_wp2_with (go_at_call 57; refine (rep_eight w hG).mono ?_; rintro e w0 ⟨rfl, hb1⟩)
  have hw2 := Go.Lib.bytesWorld_below w0 5 ⟨#[48, 48, 48, 48, 48, 48, 48, 48]⟩
  have hH2 := Holds8.new n w0
  generalize Go.Lib.bytesWorld w0 5 ⟨#[48, 48, 48, 48, 48, 48, 48, 48]⟩ = w2 at hw2 hH2 ⊢
  generalize grownCap w0 8 0 5 = cap
  have hbs := hb1.size
  go_loopg [0, 4] n (fun g x i wr => ∃ k m : Nat, k ≤ 8 ∧ m = n / 10 ^ k ∧ m = g ∧ x = .int .i64 m ∧ i = .int .i64 (7 - (k : Int)) ∧ Holds8 wr w0.heap.size (stH n k) ∧ Below w0.heap.size w0 wr)
  case atStart => exact ⟨0, n, by decide, by simp, rfl, rfl, rfl, hH2, hw2⟩
  case round =>
    obtain ⟨k, m, hk, hm, rfl, rfl, rfl, hH, hb⟩ := hrel
    have hmn : m ≤ n := by rw [hm]; exact Nat.div_le_self _ _
    have hm2 : Aside (n / 10 ^ k = m) := hm.symm
    clear hm
    by_cases h0 : m = 0
    · have hle : ¬ (m : Int) > 0 := by omega
      have hcb : ∀ dst, Tryz.prog.underlying dst = some .string → (convert 90 dst (.slice (some ⟨w0.heap.size, 0, none⟩) 8 cap)).run Tryz.prog wr = .ok (.string ⟨(stH n k).toArray⟩) wr := by
        intro dst hd
        have := run_convert_bytes_back (P := Tryz.prog) wr 90 dst 5 ⟨w0.heap.size, 0, none⟩ cap (stH n k) Tryz.underlying90 Tryz.underlying5 hd (fun j hj => by
          have hj8 : j < 8 := by rwa [stH_len hk] at hj
          have := hH.cell hj8
          rw [List.getD_eq_getElem?_getD, List.getElem?_eq_getElem hj] at this
          rw [Addr.add_lit, Nat.zero_add]
          exact this)
        rwa [stH_len hk] at this
      have hcb9 := hcb 9 Tryz.underlying9
      have hln := stH_len (n := n) hk
      have hsz : (⟨(stH n k).toArray⟩ : ByteArray).size = 8 := by show (stH n k).toArray.size = 8; rw [List.size_toArray, hln]
      go_wp2
      go_ret
      rw [stH_end hk (hm2.out.trans h0)]
      exact ⟨by rw [ByteArray.mk_append_mk]; rfl, hb1.trans (hb.mono hbs)⟩
    · have hk8 : k < 8 := by
        refine Nat.lt_of_not_le fun h => h0 ?_
        rw [← hm2.out]
        refine Nat.div_eq_of_lt (Nat.lt_of_lt_of_le hn ?_)
        exact Nat.pow_le_pow_right (n := 10) (by decide) h
      have hgt : (m : Int) > 0 := by omega
      have hc := hH.cell (j := 7 - k) (by omega)
      have hf := hH.frozen (j := 7 - k) (by omega)
      have hs := hH.set (stH_len hk) (j := 7 - k) (by omega) (UInt8.ofNat (48 + m % 10))
      have hm10 : Aside (m / 10 = n / 10 ^ (k + 1)) := show _ = _ by rw [← hm2.out, Nat.div_div_eq_div_mul, Nat.pow_succ]
      rw [← hm2.out, ← stH_step hk8, hm2.out] at hs
      have hv : ((UInt8.ofNat (48 + m % 10)).toNat : Int) = 48 + (m : Int) % 10 := by
        rw [UInt8.toNat_ofNat']
        omega
      rw [hv] at hs
      have hq : wrap64 ((m : Int).tdiv 10) = (m : Int) / 10 := by
        rw [Int.tdiv_eq_ediv_of_nonneg (by omega)]
        unfold wrap64
        omega
      go_wp2
      go_roundg (m / 10)
      case measure => omega
      case rel =>
        refine ⟨k + 1, m / 10, by omega, hm10.out, rfl, ?_, ?_, hs, hb.setCell (Nat.le_refl _) _⟩
        · simp
        · congr 1; omega
end Go.Abs


set_option maxRecDepth 100000
set_option maxHeartbeats 4000000
namespace Go.Abs
open Go.Proofs Go.Wire Go.RowKit Go.Jr
theorem Spec.ofStr {f : FuncId} {args : List V} {t : Txt} (hc : (match Tryz.prog.funcs[f]? with | some fn => fn.body.isSome && !(fn.name == "runtime.NumGoroutine") | none => false) = true)
    (h : ∀ (w : World) (Z : Bk → Prop) (vs : Array Value), GlobB (base w) → (∀ b, Z b → b.2 < w.heap.size) → ARep w Z args vs.toList → Calls Tryz.prog f vs w fun e w' => e = .returned (.string ⟨t.toArray⟩) ∧ Below w.heap.size w w') : Spec Tryz.prog f args (fun r => r = .str t) := by
  refine ⟨callable_at hc, fun w Z vs hG hz ha => (h w Z vs hG hz ha).mono ?_⟩
  rintro e w' ⟨rfl, hb⟩
  exact ⟨_, _, rfl, rfl, fun _ => rfl, rrep_pure hG (kept_of_below hb) (fun _ => rfl) fun Z => ⟨rfl, .str _⟩⟩
theorem arg1 {w : World} {Z : Bk → Prop} {a : V} {vs : Array Value} (ha : ARep w Z [a] vs.toList) : ∃ v1, vs = #[v1] ∧ VRep w Z (fun _ => none) (fun _ => none) a v1 := by
  obtain ⟨l⟩ := vs
  match l, ha with
  | [], ha => exact absurd ha.1 (by simp)
  | _ :: _ :: _, ha => exact absurd ha.1 (by simp)
  | [v1], ha => exact ⟨v1, rfl, (ha.2 0 _ v1 rfl rfl).2⟩
theorem s30 (n : Nat) (h : n < 100000000) : Spec Tryz.prog 60 [.int .i64 n] (fun r => r = .str (hdr n)) := by
  refine Spec.ofStr (by kernel_rfl) fun w Z vs hG hz ha => ?_
  obtain ⟨v1, rfl, h1⟩ := arg1 ha
  rw [prep_int h1.2]
  exact h30 n h w hG
theorem s43 (n : Nat) (h : n ≤ 16) : Spec Tryz.prog 57 [.str [0], .int .i64 n] (fun r => r = .str (zeros n)) := by
  refine Spec.ofStr (by kernel_rfl) fun w Z vs hG hz ha => ?_
  obtain ⟨v1, v2, rfl, h1, h2⟩ := arg2 ha
  rw [prep_str h1.2, prep_int h2.2]
  exact rep_zero n h w hG
theorem cat_flat (l : List Txt) : ∀ k, k ≤ l.length → cat (fun i => l.getD i []) k = (l.take k).flatten
  | 0, _ => by simp [cat]
  | k + 1, h => by
    rw [cat, cat_flat l k (by omega), List.take_add_one, List.getElem?_eq_getElem (by omega), List.flatten_append]
    simp [List.getD_eq_getElem?_getD, List.getElem?_eq_getElem (show k < l.length by omega)]
theorem s41 (l : List Txt) (h1 : l.length ≤ 1000000) (h2 : l.flatten.length ≤ 140737488355328) : Spec Tryz.prog 89 [lst 1 (strs l), .str []] (fun r => r = .str l.flatten) := by
  refine Spec.ofStr (by kernel_rfl) fun w Z vs hG hz ha => ?_
  obtain ⟨v1, v2, rfl, hv1, hv2⟩ := arg2 ha
  rw [prep_str hv2.2]
  obtain ⟨p, cap, rfl, q, m⟩ := (plain_strs l).slice hv1.2
  rw [strs_len] at q m ⊢
  have hcell : ∀ b o, (∀ j u, (cellsC (strs l))[j]? = some u → w.cell? ⟨b, o + j, none⟩ = some u) → ∀ k, k < l.length → w.cell? ⟨b, o + k, none⟩ = some (.string ⟨(l.getD k []).toArray⟩) := by
    intro b o hc k hk
    refine hc k _ ?_
    have := ((plain_strs l).at (i := k) (j := 0) (r := encS l[k]) (c := .str l[k]) (by simp [strs, hk]) rfl).1
    rw [Nat.mul_one, Nat.add_zero] at this
    rw [this]
    simp [List.getD_eq_getElem?_getD, hk]
    rfl
  match hl : l.length, q, m with
  | 0, q, m =>
    obtain rfl : l = [] := List.eq_nil_of_length_eq_zero hl
    exact join_none cap p w
  | 1, q, m =>
    obtain ⟨b, o, rfl, hc⟩ := q (by decide)
    have := hcell b o hc 0 (by omega)
    match l, hl with
    | [s], _ =>
      have e : [s].flatten = s := by simp
      rw [e]
      exact join_one cap b o ⟨s.toArray⟩ w this (m (by simp))
  | n + 2, q, m =>
    obtain ⟨b, o, rfl, hc⟩ := q (by omega)
    have hb : b < w.heap.size := by
      have := hcell b o hc 0 (by omega)
      exact Nat.lt_of_not_le fun hge => by simp [World.cell?, Array.getElem?_eq_none hge] at this
    have e := cat_flat l (n + 2) (by omega)
    rw [List.take_of_length_le (by omega)] at e
    rw [← e]
    exact join_many (n + 2) cap b o (fun i => l.getD i []) w hb (fun k hk => hcell b o hc k (by omega)) (by omega) (by omega) (m (by omega)) (by rw [e]; exact h2)
end Go.Abs


set_option maxRecDepth 100000
set_option maxHeartbeats 4000000
namespace Go.Abs
open Go.Proofs Go.Wire Go.RowKit Go.Jr
theorem tb1 {n τ : Nat} {a x : O} (h : tabOf n [a] τ = some x) : τ = n ∧ x = a := by
  unfold tabOf at h
  split at h
  · rename_i hle
    obtain ⟨k, rfl⟩ : ∃ k, τ = n + k := ⟨τ - n, by omega⟩
    rw [Nat.add_sub_cancel_left] at h
    match k, h with
    | 0, h => simp at h; exact ⟨rfl, h.symm⟩
    | k + 1, h => simp at h
  · cases h
theorem tb1n {n τ : Nat} {a : O} (h : tabOf n [a] τ ≠ none) : τ = n := by
  cases e : tabOf n [a] τ with
  | none => exact absurd e h
  | some x => exact (tb1 e).1
abbrev FreshL (w w' : World) (e sz : Nat) (rows : List (List C)) (v : Value) : Prop := (v = .slice none 0 0 ∧ rows = []) ∨ ∃ g cap, v = .slice (some ⟨g, 0, none⟩) rows.length cap ∧ Row w w' e sz rows g cap
theorem rrep1 {w w' : World} {Z : Bk → Prop} {e sz : Nat} {rows : List (List C)} {v : Value} (hG : GlobB (base w)) (hk : Kept w w') (h : FreshL w w' e sz rows v) : RRep (base w) Z (.k (.newl e sz none rows)) v w' := by
  intro n
  obtain ⟨k, hk1, hk2⟩ : ∃ k : Option Nat, ((k = none ∧ v = .slice none 0 0 ∧ rows = []) ∨ ∃ g cap, k = some g ∧ v = .slice (some ⟨g, 0, none⟩) rows.length cap ∧ Row w w' e sz rows g cap) ∧ (∀ b, k = some b → w.heap.size ≤ b ∧ b < w'.heap.size) := by
    rcases h with ⟨a, b⟩ | ⟨g, cap, a, b⟩
    · exact ⟨none, .inl ⟨rfl, a, b⟩, fun _ h => by cases h⟩
    · obtain ⟨cur, hc, _⟩ := b.ex
      exact ⟨some g, .inr ⟨g, cap, rfl, a, b⟩, fun _ h => by cases h; exact ⟨b.fresh, heap_lt hc⟩⟩
  refine ⟨fun _ => k, hk, hG, fun τ b ho h => ?_, fun τ τ' b ho ho' h h' => ?_, fun τ ob h => ?_, fun s => ?_⟩
  · have := hk2 b h
    exact ⟨Nat.not_lt.2 this.1, this.2⟩
  · exact (tb1n ho).trans (tb1n ho').symm
  · obtain ⟨rfl, rfl⟩ := tb1 h
    rcases hk1 with ⟨a, b, c⟩ | ⟨g, cap, a, b, c⟩
    · exact .inl ⟨a, c, by simp⟩
    · exact c.orep a
  · by_cases hs : s = 0
    · subst hs
      simp only [if_true]
      refine ⟨by rcases hk1 with ⟨_, rfl, _⟩ | ⟨_, _, _, rfl, _⟩ <;> rfl, fun e' sz' nl' rows' h => ?_⟩
      obtain ⟨_, h2⟩ := tb1 h
      cases h2
      rcases hk1 with ⟨a, b, c⟩ | ⟨g, cap, a, b, c⟩
      · exact .inl ⟨a, b⟩
      · obtain ⟨cur, hc, hz, _⟩ := c.ex
        exact .inr ⟨g, cur, cap, a, hc, hz, b⟩
    · simp only [hs, if_false]; trivial
theorem fresh_of_owns {w w' : World} {e sz n : Nat} {rows : List (List C)} {v : Value} (h : Plain sz rows) (hw : w'.ownsRow w.heap.size e sz v n (cellsC rows)) (hn : n = rows.length) : FreshL w w' e sz rows v := by
  subst hn
  rcases hw.2 with ⟨h1, h2⟩ | ⟨g2, cap, cur, h1, h2, h3, h4, h5, h6, h7⟩
  · exact .inl ⟨h1, List.eq_nil_of_length_eq_zero h2⟩
  · refine .inr ⟨g2, cap, h1, h2, ⟨cur, h3, h6, fun i j r c hr hc => ⟨valC c, ?_, fun Z => sc_rep (h.at hr hc).2⟩⟩, h.pos, h4, h5, h.len⟩
    have := (h.at hr hc).1
    rw [← h7, List.getElem?_take] at this
    split at this
    · simpa using this
    · cases this
theorem cells_strs (l : List Txt) : cellsC (strs l) = (l.map fun s => (⟨s.toArray⟩ : ByteArray)).map Value.string := by
  rw [cellsC, strs, List.map_map]
  induction l with
  | nil => rfl
  | cons a l ih => simp [encS, ih]; rfl
theorem s37 (l : List Txt) (hl : l.length ≤ 8796093022208) : Spec Tryz.prog 37 [lst 1 (strs l)] (fun r => r = .k (.newl 9 1 none (strs l))) := by
  refine ⟨callable_at (by kernel_rfl), fun w Z vs hG hz ha => ?_⟩
  obtain ⟨vl⟩ := vs
  match vl, ha with
  | [], ha => exact absurd ha.1 (by simp)
  | _ :: _ :: _, ha => exact absurd ha.1 (by simp)
  | [v], ha =>
    obtain ⟨p, k, rfl, q, m⟩ := (plain_strs l).slice (ha.2 0 _ v rfl rfl).2.2
    have hcl := (plain_strs l).clen
    by_cases h0 : l = []
    · subst h0
      have conc : ∀ v' w', w'.ownsRow w.heap.size 9 1 v' 0 [] → Below w.heap.size w w' → ∃ v_1 r, Ending.returned v' = .returned v_1 ∧ r = V.k (.newl 9 1 none (strs [])) ∧ (∀ τ, r.noRef τ = true) ∧ RRep (base w) Z r v_1 w' := fun v' w' ho hb =>
        ⟨_, _, rfl, rfl, fun τ => rfl, rrep1 hG (kept_of_below hb) (fresh_of_owns (rows := strs []) (plain_strs []) ho rfl)⟩
      cases p with
      | none =>
        refine (Any.slices_Clone_string_nil Tryz.laysClone 0 k w).mono ?_
        rintro e w' ⟨rfl, rfl⟩
        exact conc _ _ ⟨rfl, .inl ⟨rfl, rfl⟩⟩ (Below.refl _ _)
      | some a =>
        refine (Any.slices_Clone_string_zero Tryz.laysClone a k w).mono ?_
        rintro e w' ⟨v', rfl, ho, _, hb⟩
        exact conc _ _ ho hb
    · have hpos : 0 < (strs l).length := by rw [strs_len]; exact List.length_pos_iff.2 h0
      obtain ⟨b, o, rfl, g⟩ := q hpos
      refine (Any.slices_Clone_string Tryz.laysClone b o (strs l).length k (l.map fun s => (⟨s.toArray⟩ : ByteArray)) w (by rw [strs_len, List.length_map]; exact Nat.le_refl _) (by rw [strs_len]; omega) ?_).mono ?_
      · intro j hj
        refine g j _ ?_
        rw [cells_strs, List.getElem?_map, List.getD_eq_getElem?_getD, List.getElem?_eq_getElem hj]; rfl
      · rintro e w' ⟨v', rfl, ho, _, hb⟩
        refine ⟨_, _, rfl, rfl, fun τ => rfl, rrep1 hG (kept_of_below hb) (fresh_of_owns (n := (strs l).length) (plain_strs l) ?_ rfl)⟩
        rw [cells_strs]
        rw [List.take_of_length_le (by rw [strs_len, List.length_map]; exact Nat.le_refl _)] at ho
        exact ho
end Go.Abs


set_option maxRecDepth 10000
namespace Go.Rg
open Go.Wire
theorem lt_irr (a : Txt) : ¬ a < a := List.lt_irrefl a
theorem lt_tr {a b c : Txt} (h : a < b) (h2 : b < c) : a < c := List.lt_trans h h2
theorem tri (a b : Txt) : a < b ∨ a = b ∨ b < a := by
  by_cases h : a < b
  · exact .inl h
  · by_cases h2 : b < a
    · exact .inr (.inr h2)
    · exact .inr (.inl (List.le_antisymm (List.not_lt.1 h2) (List.not_lt.1 h)))
abbrev Asc (l : List Txt) : Prop := l.Pairwise (· < ·)
theorem Asc.uniq : ∀ {a b : List Txt}, Asc a → Asc b → (∀ x, x ∈ a ↔ x ∈ b) → a = b
  | [], [], _, _, _ => rfl
  | [], y :: b, _, _, h => absurd ((h y).2 List.mem_cons_self) (by simp)
  | x :: a, [], _, _, h => absurd ((h x).1 List.mem_cons_self) (by simp)
  | x :: a, y :: b, ha, hb, h => by
    obtain ⟨h1, h2⟩ := List.pairwise_cons.1 ha
    obtain ⟨h3, h4⟩ := List.pairwise_cons.1 hb
    have hxy : x = y := by
      rcases List.mem_cons.1 ((h x).1 List.mem_cons_self) with e | e
      · exact e
      · rcases List.mem_cons.1 ((h y).2 List.mem_cons_self) with e2 | e2
        · exact e2.symm
        · exact absurd (lt_tr (h1 y e2) (h3 x e)) (lt_irr x)
    subst hxy
    rw [Asc.uniq h2 h4 fun z => ?_]
    refine ⟨fun hz => ?_, fun hz => ?_⟩
    · rcases List.mem_cons.1 ((h z).1 (List.mem_cons_of_mem _ hz)) with rfl | e
      · exact absurd (h1 z hz) (lt_irr z)
      · exact e
    · rcases List.mem_cons.1 ((h z).2 (List.mem_cons_of_mem _ hz)) with rfl | e
      · exact absurd (h3 z hz) (lt_irr z)
      · exact e
def insU : List Txt → Txt → List Txt
  | [], s => [s]
  | a :: l, s => if s < a then s :: a :: l else if s = a then a :: l else a :: insU l s
theorem insU_mem : ∀ (l : List Txt) (s x : Txt), x ∈ insU l s ↔ x = s ∨ x ∈ l
  | [], s, x => by simp [insU]
  | a :: l, s, x => by
    rw [insU]
    split
    · simp
    · split
      · rename_i h; subst h; simp
      · simp only [List.mem_cons, insU_mem l s x]
        constructor
        · rintro (h | h | h)
          · exact .inr (.inl h)
          · exact .inl h
          · exact .inr (.inr h)
        · rintro (h | h | h)
          · exact .inr (.inl h)
          · exact .inl h
          · exact .inr (.inr h)
theorem insU_asc : ∀ {l : List Txt} (s : Txt), Asc l → Asc (insU l s)
  | [], s, _ => by simp [insU]
  | a :: l, s, h => by
    obtain ⟨h1, h2⟩ := List.pairwise_cons.1 h
    rw [insU]
    split
    · rename_i hs
      refine List.pairwise_cons.2 ⟨fun x hx => ?_, h⟩
      rcases List.mem_cons.1 hx with rfl | hx
      · exact hs
      · exact lt_tr hs (h1 x hx)
    · rename_i hs
      split
      · exact h
      · rename_i hne
        refine List.pairwise_cons.2 ⟨fun x hx => ?_, insU_asc s h2⟩
        rcases (insU_mem l s x).1 hx with rfl | hx
        · rcases tri x a with h3 | h3 | h3
          · exact absurd h3 hs
          · exact absurd h3 hne
          · exact h3
        · exact h1 x hx
def insAll (acc : List Txt) (l : List Txt) : List Txt := l.foldl insU acc
theorem insAll_asc : ∀ (l : List Txt) {acc : List Txt}, Asc acc → Asc (insAll acc l)
  | [], _, h => h
  | s :: l, _, h => insAll_asc l (insU_asc s h)
theorem insAll_mem : ∀ (l : List Txt) (acc : List Txt) (x : Txt), x ∈ insAll acc l ↔ x ∈ acc ∨ x ∈ l
  | [], acc, x => by simp [insAll]
  | s :: l, acc, x => by
    show x ∈ insAll (insU acc s) l ↔ _
    rw [insAll_mem l (insU acc s) x, insU_mem]
    simp only [List.mem_cons]
    constructor
    · rintro ((h | h) | h)
      · exact .inr (.inl h)
      · exact .inl h
      · exact .inr (.inr h)
    · rintro (h | h | h)
      · exact .inl (.inr h)
      · exact .inl (.inl h)
      · exact .inr h
def cnt (logs : List (List Txt)) (s : Txt) : Nat := (logs.filter (fun l => decide (s ∈ l))).length
def agreeF (logs : List (List Txt)) : List Txt := insAll [] (logs.flatten.filter fun s => decide (2 ≤ cnt logs s))
theorem agreeF_asc (logs : List (List Txt)) : Asc (agreeF logs) := insAll_asc _ List.Pairwise.nil
theorem cnt_pos {logs : List (List Txt)} {s : Txt} (h : 1 ≤ cnt logs s) : s ∈ logs.flatten := by
  unfold cnt at h
  obtain ⟨l, hl⟩ := List.length_pos_iff_exists_mem.1 h
  obtain ⟨h1, h2⟩ := List.mem_filter.1 hl
  exact List.mem_flatten.2 ⟨l, h1, of_decide_eq_true h2⟩
theorem agreeF_mem (logs : List (List Txt)) (s : Txt) : s ∈ agreeF logs ↔ 2 ≤ cnt logs s := by
  unfold agreeF
  rw [insAll_mem]
  simp only [List.not_mem_nil, false_or, List.mem_filter, decide_eq_true_eq]
  exact ⟨fun h => h.2, fun h => ⟨cnt_pos (by omega), h⟩⟩
theorem agreeF_is {logs : List (List Txt)} {l : List Txt} (h1 : Asc l) (h2 : ∀ s, s ∈ l ↔ 2 ≤ cnt logs s) : l = agreeF logs :=
  Asc.uniq h1 (agreeF_asc logs) fun s => (h2 s).trans (agreeF_mem logs s).symm
theorem cnt_cons (l : List Txt) (logs : List (List Txt)) (s : Txt) : cnt (l :: logs) s = (if s ∈ l then 1 else 0) + cnt logs s := by
  unfold cnt
  rw [List.filter_cons]
  by_cases h : s ∈ l
  · simp [h]; omega
  · simp [h]
theorem cnt_app (a b : List (List Txt)) (s : Txt) : cnt (a ++ b) s = cnt a s + cnt b s := by
  unfold cnt; rw [List.filter_append, List.length_append]
theorem sort_asc {l : List Txt} (h : l.Nodup) : Asc (l.mergeSort fun x y => decide (x ≤ y)) := by
  have hp := List.mergeSort_perm l (fun x y => decide (x ≤ y))
  have hs := List.pairwise_mergeSort (le := fun (x y : Txt) => decide (x ≤ y)) (fun a b c h1 h2 => by
    simp only [decide_eq_true_eq] at h1 h2 ⊢
    exact List.le_trans h1 h2) (fun a b => by
    simp only [Bool.or_eq_true, decide_eq_true_eq]
    exact List.le_total a b) l
  have hn : (l.mergeSort fun x y => decide (x ≤ y)).Nodup := hp.nodup_iff.2 h
  refine (List.Pairwise.and hs hn).imp fun {a b} ⟨h1, h2⟩ => ?_
  have h3 : a ≤ b := of_decide_eq_true h1
  rcases tri a b with h4 | h4 | h4
  · exact h4
  · exact absurd h4 h2
  · exact absurd (List.not_lt.2 h3) (fun h => h h4)
theorem sort_mem (l : List Txt) (x : Txt) : (x ∈ l.mergeSort fun x y => decide (x ≤ y)) ↔ x ∈ l := List.mem_mergeSort
end Go.Rg
namespace Go.Rg
open Go.Wire
def pairK (a : List Txt) : List (List Txt) → List Txt → List Txt
  | [], out => out
  | b :: r, out => pairK a r (insAll out (a.filter fun s => decide (s ∈ b)))
def pairI : List (List Txt) → List Txt → List Txt
  | [], out => out
  | a :: r, out => pairI r (pairK a r out)
theorem pairK_asc (a : List Txt) : ∀ (r : List (List Txt)) {out : List Txt}, Asc out → Asc (pairK a r out)
  | [], _, h => h
  | b :: r, _, h => pairK_asc a r (insAll_asc _ h)
theorem pairI_asc : ∀ (r : List (List Txt)) {out : List Txt}, Asc out → Asc (pairI r out)
  | [], _, h => h
  | a :: r, _, h => pairI_asc r (pairK_asc a r h)
theorem pairK_mem (a : List Txt) : ∀ (r : List (List Txt)) (out : List Txt) (x : Txt), x ∈ pairK a r out ↔ x ∈ out ∨ (x ∈ a ∧ 1 ≤ cnt r x)
  | [], out, x => by simp [pairK, cnt]
  | b :: r, out, x => by
    rw [pairK, pairK_mem a r, insAll_mem, cnt_cons, List.mem_filter, decide_eq_true_eq]
    by_cases hb : x ∈ b
    · rw [if_pos hb]
      constructor
      · rintro ((h | h) | h)
        · exact .inl h
        · exact .inr ⟨h.1, by omega⟩
        · exact .inr ⟨h.1, by omega⟩
      · rintro (h | h)
        · exact .inl (.inl h)
        · exact .inl (.inr ⟨h.1, hb⟩)
    · rw [if_neg hb]
      constructor
      · rintro ((h | h) | h)
        · exact .inl h
        · exact absurd h.2 hb
        · exact .inr ⟨h.1, by omega⟩
      · rintro (h | h)
        · exact .inl (.inl h)
        · exact .inr ⟨h.1, by omega⟩
theorem pairI_mem : ∀ (r : List (List Txt)) (out : List Txt) (x : Txt), x ∈ pairI r out ↔ x ∈ out ∨ 2 ≤ cnt r x
  | [], out, x => by simp [pairI, cnt]
  | a :: r, out, x => by
    rw [pairI, pairI_mem r, pairK_mem, cnt_cons]
    by_cases ha : x ∈ a
    · rw [if_pos ha]
      constructor
      · rintro ((h | h) | h)
        · exact .inl h
        · exact .inr (by omega)
        · exact .inr (by omega)
      · rintro (h | h)
        · exact .inl (.inl h)
        · exact .inl (.inr ⟨ha, by omega⟩)
    · rw [if_neg ha]
      constructor
      · rintro ((h | h) | h)
        · exact .inl h
        · exact absurd h.1 ha
        · exact .inr (by omega)
      · rintro (h | h)
        · exact .inl (.inl h)
        · exact .inr (by omega)
theorem pairI_eq (logs : List (List Txt)) : pairI logs [] = agreeF logs :=
  agreeF_is (pairI_asc logs List.Pairwise.nil) fun s => by rw [pairI_mem]; simp
end Go.Rg


set_option maxRecDepth 100000
set_option maxHeartbeats 4000000
namespace Go.Abs
open Go.Proofs Go.Wire Go.RowKit Go.Jr
@[simp] theorem wrs_isEmpty (l : List Wr) : (wrs l).isEmpty = l.isEmpty := by cases l <;> rfl
theorem wrs_at {l : List Wr} {i : Nat} (h : i < l.length) : (wrs l).getD i [] = [.int .i64 l[i].pos, .str l[i].text] := by simp [wrs, encW, h]
@[simp] theorem normRow_encW (w : Wr) : C.normRow (encW w) = encW w := rfl
@[simp] theorem normRows_wrs (l : List Wr) : C.normRows (wrs l) = wrs l := normRows_eq (fun _ => rfl) l
theorem wrs_snoc (l : List Wr) (w : Wr) : wrs l ++ [[.int .i64 w.pos, .str w.text]] = wrs (l ++ [w]) := by simp [wrs, encW]
abbrev objC (secs : List Txt) (pend : List Wr) (left : Int) (down : Bool) : O := .var 25 [.c (lstC 1 (strs secs)), .c (lstC 2 (wrs pend)), .c (.int .i64 left), .c (.bool down)]
theorem b37 (d : Disk) (h : Right d) : Spec Tryz.prog 71 [dV d] (fun r => r = .bool true) := by
  refine Spec.of_awlS hf71 okf71 (by simp) fun S hS => ?_
  obtain ⟨secs, pend, left, down⟩ := d
  have hlo : 1 ≤ secs.length := h.lo
  have hhi : secs.length ≤ 512 := h.hi
  have hpe : pend.length ≤ 512 := h.pe
  have hl0 : -1 ≤ left := h.l0
  have hl1 : left ≤ 512 := h.l1
  have hse : ∀ s ∈ secs, s.length = 16 := h.se
  have hwr : ∀ w ∈ pend, 0 ≤ w.pos ∧ w.pos < secs.length ∧ w.text.length = 16 := h.wr
  have l0 : ¬ (secs.length : Int) < 1 := by omega
  have l1 : ¬ (secs.length : Int) > 512 := by omega
  have p1 : ¬ (pend.length : Int) > 512 := by omega
  have f0 : ¬ left < -1 := by omega
  have f1 : ¬ left > 512 := by omega
  have hpl : down = true → ¬ (pend.length : Int) > 0 ∧ (left != -1) = false := fun e => by
    obtain ⟨e1, e2⟩ := h.dn e
    have e1 : pend = [] := e1
    have e2 : left = -1 := e2
    subst e1 e2
    exact ⟨by simp, rfl⟩
  have key : ∀ ts, lookT 1 ts = .k (.ptr 1 0) → awl Tryz.prog f71b40 (endK [RX.t 2] S) ts [(1, objC secs pend left down)] := by
    intro ts h1
    simp only [h1, strs_len, wrs_len, Qs, if_false, Nat.reduceAdd, Nat.reduceLeDiff, uu f71b37.eq_1, vv f71r38.eq_1, uu f71b39.eq_1, uu f71b40.eq_1]
    rw [uf71l36]
    refine awl_loop (fun i : Nat => [(1, .k (.ptr 1 0)), (49, lst 1 (strs secs)), (50, .int .i64 secs.length), (51, .int .i64 i)]) (fun _ => [(1, objC secs pend left down)])
      (fun i => i ≤ secs.length) (fun i => secs.length - i) 0 (by simp [keepT, lookT, h1]) rfl (Nat.zero_le _) ?_
    intro i hi
    by_cases hlt : i < secs.length
    · have c1 : (i : Int) < secs.length := by omega
      have c4 : IntKind.i64.wrap ((i : Int) + 1) = (i : Int) + 1 := wrap_in (by omega) (by omega)
      have c2 := hse _ (List.getElem_mem hlt)
      simp only [strs_len, c1, c2, c4, strs_at hlt, Qs, if_true, Nat.reduceBEq, Int.reduceBNe, vv f71r22.eq_1, uu f71b25.eq_1, vv f71r26.eq_1, uu f71b27.eq_1, vv f71r28.eq_1, uu f71b29.eq_1, uu f71b30.eq_1, uu f71b31.eq_1, uu f71b32.eq_1, uu f71b33.eq_1, vv f71r34.eq_1, uu f71b35.eq_1]
      exact Next.intro (i + 1) rfl rfl (by omega) (by omega)
    · have c1 : ¬ (i : Int) < secs.length := by omega
      simp only [strs_len, wrs_len, c1, Qs, if_true, if_false, Nat.reduceAdd, Nat.reduceLeDiff, Nat.reduceBEq, uu f71b18.eq_1, vv f71r19.eq_1, uu f71b20.eq_1, uu f71b21.eq_1, uu f71b32.eq_1, uu f71b33.eq_1, vv f71r34.eq_1, uu f71b35.eq_1]
      rw [uf71l17]
      refine awl_loop (fun i : Nat => [(1, .k (.ptr 1 0)), (60, lst 2 (wrs pend)), (61, .int .i64 pend.length), (62, .int .i64 i)]) (fun _ => [(1, objC secs pend left down)])
        (fun i => i ≤ pend.length) (fun i => pend.length - i) 0 rfl rfl (Nat.zero_le _) ?_
      intro i hi
      by_cases hlt : i < pend.length
      · have c1 : (i : Int) < pend.length := by omega
        have c4 : IntKind.i64.wrap ((i : Int) + 1) = (i : Int) + 1 := wrap_in (by omega) (by omega)
        obtain ⟨w0, w1, w2⟩ := hwr _ (List.getElem_mem hlt)
        have c5 : ¬ pend[i].pos < 0 := by omega
        have c6 : ¬ pend[i].pos ≥ secs.length := by omega
        simp only [strs_len, wrs_len, c1, c4, c5, c6, w2, wrs_at hlt, Qs, q_partV_eq_1, if_true, if_false, bne_iff_ne, ne_eq, List.append_nil, Nat.reduceAdd, Nat.reduceEqDiff, Nat.reduceLeDiff, Nat.reduceBEq, Int.reduceBNe, vv f71r3.eq_1, uu f71b6.eq_1, vv f71r7.eq_1, uu f71b8.eq_1, vv f71r9.eq_1, uu f71b10.eq_1, uu f71b11.eq_1, uu f71b12.eq_1, uu f71b13.eq_1, uu f71b14.eq_1, vv f71r15.eq_1, uu f71b16.eq_1]
        exact Next.intro (i + 1) rfl rfl (by omega) (by omega)
      · have c1 : ¬ (i : Int) < pend.length := by omega
        simp only [wrs_len, c1, Qs, if_true, List.nodup_nil, Nat.reduceBEq, vv f71r1.eq_1, uu f71b2.eq_1, uu f71b13.eq_1, uu f71b14.eq_1, vv f71r15.eq_1, uu f71b16.eq_1]
        exact hS
  cases down
  · simp only [encD, strs_len, wrs_len, l0, l1, p1, f0, f1, Qs, if_true, if_false, Int.reduceNeg, Nat.reduceAdd, Nat.reduceLeDiff, Nat.reduceBEq, uu f71.eq_1, uu f71b43.eq_1, vv f71r44.eq_1, uu f71b45.eq_1, uu f71b46.eq_1, vv f71r47.eq_1, uu f71b48.eq_1]
    exact key _ rfl
  · obtain ⟨e1, e2⟩ := hpl rfl
    simp only [encD, strs_len, wrs_len, l0, l1, p1, f0, f1, e1, e2, Qs, if_true, if_false, Int.reduceNeg, Nat.reduceAdd, Nat.reduceLeDiff, Nat.reduceBEq, uu f71.eq_1, uu f71b43.eq_1, vv f71r44.eq_1, uu f71b45.eq_1, uu f71b46.eq_1, vv f71r47.eq_1, uu f71b48.eq_1]
    exact key _ rfl
end Go.Abs


set_option maxRecDepth 100000
set_option maxHeartbeats 4000000
namespace Go.Abs
open Go.Proofs Go.Wire Go.RowKit Go.Jr
theorem fin_D {S : V → Prop} {X : V} (h : ∀ r, r.fz.nrm = X → S r) {c1 c2 : C} {l : Int} {b : Bool} {secs : List Txt} {pend : List Wr} (h1 : c1.norm = lstC 1 (strs secs)) (h2 : c2.norm = lstC 2 (wrs pend)) (hX : X = dV ⟨secs, pend, l, b⟩) : S (.agg [c1, c2, .int .i64 l, .bool b]) := by
  refine h _ ?_
  simp only [V.fz, V.nrm, C.normRow, h1, h2, norm_int, norm_bool, hX, dV, encD]
def resD (x : Disk × Int) : V := .tup [dV x.1, .int .i64 x.2]
theorem fin_T {S : V → Prop} {X : V} (h : ∀ r, r.fz.nrm = X → S r) {c1 c2 : C} {l e : Int} {b : Bool} {secs : List Txt} {pend : List Wr} (h1 : c1.norm = lstC 1 (strs secs)) (h2 : c2.norm = lstC 2 (wrs pend)) (hX : X = resD (⟨secs, pend, l, b⟩, e)) : S (.tup [.agg [c1, c2, .int .i64 l, .bool b], .k (.c (.int .i64 e))]) := by
  refine h _ ?_
  simp only [V.fz, V.nrm, V.fzL, V.nrmL, Abs.K.fz, Abs.K.nrm, C.normRow, h1, h2, norm_int, norm_bool, hX, resD, dV, encD]
theorem fin_K {S : V → Prop} {X : V} (h : ∀ r, r.fz.nrm = X → S r) {k1 k2 : K} {c1 c2 : C} {l e : Int} {b : Bool} {secs : List Txt} {pend : List Wr} (e1 : k1.fz = .c c1) (e2 : k2.fz = .c c2) (h1 : c1.norm = lstC 1 (strs secs)) (h2 : c2.norm = lstC 2 (wrs pend)) (hX : X = resD (⟨secs, pend, l, b⟩, e)) : S (.tup [.agk [k1, k2, .c (.int .i64 l), .c (.bool b)], .k (.c (.int .i64 e))]) := by
  refine h _ ?_
  have : V.fz (.agk [k1, k2, .c (.int .i64 l), .c (.bool b)]) = .agg [c1, c2, .int .i64 l, .bool b] := by
    simp only [V.fz, List.map_cons, List.map_nil, e1, e2]; rfl
  rw [show (V.tup [V.agk [k1, k2, K.c (C.int IntKind.i64 l), K.c (C.bool b)], V.k (K.c (C.int IntKind.i64 e))]).fz = .tup [V.fz (.agk [k1, k2, .c (.int .i64 l), .c (.bool b)]), .k (.c (.int .i64 e))] from rfl, this]
  simp only [V.nrmL, V.nrm, C.normRow, h1, h2, norm_int, norm_bool, hX, resD, dV, encD, Abs.K.nrm]
theorem norm_s (l : List Txt) : (lstC 1 (strs l)).norm = lstC 1 (strs l) := by rw [norm_lst, normRows_strs]
theorem norm_w (l : List Wr) : (lstC 2 (wrs l)).norm = lstC 2 (wrs l) := by rw [norm_lst, normRows_wrs]
theorem b34 (d : Disk) (h : Right d) : Spec Tryz.prog 54 [dV d] (fun r => r = .int .i64 (if d.down = true then 8 else 0)) := by
  refine Spec.of_awlS hf54 okf54 (by simp) fun S hS => ?_
  have c37 := b37 d h
  obtain ⟨secs, pend, left, down⟩ := d
  simp only [dV, encD] at *
  simp only [encD, normRows_strs, normRows_wrs, Qs, if_true, Nat.reduceAdd, Nat.reduceBEq, uu f54.eq_1, vv f54r11.eq_1, uu f54b12.eq_1, uu f54b13.eq_1, uu f54b14.eq_1, vv f54r15.eq_1, uu f54b16.eq_1]
  refine call_s c37 ?_
  cases down <;> simp only [Qs, if_false, List.nodup_nil, Nat.reduceAdd, Nat.reduceBEq, vv f54r1.eq_1, uu f54b2.eq_1, vv f54r5.eq_1, uu f54b6.eq_1, uu f54b7.eq_1, vv f54r8.eq_1, uu f54b9.eq_1, uu f54b10.eq_1] <;> exact hS
theorem b45 (d : Disk) (h : Right d) : Spec Tryz.prog 84 [dV d] (fun r => r = .int .i64 0) := by
  refine Spec.of_awlS hf84 okf84 (by simp) fun S hS => ?_
  have c37 := b37 d h
  obtain ⟨secs, pend, left, down⟩ := d
  simp only [dV, encD] at *
  simp only [encD, normRows_strs, normRows_wrs, Qs, if_true, Nat.reduceAdd, Nat.reduceBEq, uu f84.eq_1, vv f84r6.eq_1, uu f84b7.eq_1, uu f84b8.eq_1, vv f84r9.eq_1, uu f84b10.eq_1]
  refine call_s c37 ?_
  simp only [Qs, List.nodup_nil, vv f84r1.eq_1, uu f84b2.eq_1, uu f84b5.eq_1]
  exact hS
theorem b35 (d : Disk) : Spec Tryz.prog 85 [dV d] (fun r => r = dV ⟨d.secs, [], -1, true⟩) := by
  refine Spec.of_awlP hf85 okf85 (by simp) fun S hS => ?_
  obtain ⟨secs, pend, left, down⟩ := d
  simp only [dV, encD] at *
  simp only [encD, normRows_strs, normRows_wrs, Qs, if_true, bne_iff_ne, ne_eq, Int.reduceNeg, List.append_nil, List.nodup_nil, Nat.reduceAdd, Nat.reduceEqDiff, Nat.reduceLeDiff, Nat.reduceLT, Nat.reduceBEq, uu f85.eq_1, vv f85r1.eq_1, uu f85b2.eq_1, vv f85r3.eq_1, uu f85b4.eq_1, vv f85r5.eq_1, uu f85b6.eq_1]
  exact fin_D hS (norm_s _) (pend := []) rfl rfl
theorem b33 (d : Disk) (h : Right d) : Spec Tryz.prog 58 [dV d] (fun r => r = .int .i64 (readyD d)) := by
  refine Spec.of_awlS hf58 okf58 (by simp) fun S hS => ?_
  have c45 := b45 d h
  obtain ⟨secs, pend, left, down⟩ := d
  unfold readyD at hS
  simp only [dV, encD] at *
  simp only [encD, normRows_strs, normRows_wrs, Qs, if_true, Nat.reduceAdd, Nat.reduceBEq, uu f58.eq_1, vv f58r16.eq_1, uu f58b17.eq_1, uu f58b18.eq_1, uu f58b19.eq_1, vv f58r20.eq_1, uu f58b21.eq_1]
  refine call_s c45 ?_
  cases down
  · by_cases hp : pend = []
    · have c : ¬ (pend.length : Int) > 0 := by simp [hp]
      simp only [wrs_len, c, Qs, if_true, if_false, List.nodup_nil, Nat.reduceAdd, Nat.reduceLeDiff, Nat.reduceBEq, Int.reduceBNe, vv f58r1.eq_1, uu f58b2.eq_1, uu f58b9.eq_1, vv f58r10.eq_1, uu f58b11.eq_1, uu f58b12.eq_1, vv f58r13.eq_1, uu f58b14.eq_1, uu f58b15.eq_1]
      rw [if_neg (by simp), if_pos hp] at hS
      exact hS
    · have c : (pend.length : Int) > 0 := by have := List.length_pos_iff.2 hp; omega
      simp only [wrs_len, c, Qs, if_true, if_false, List.nodup_nil, Nat.reduceAdd, Nat.reduceLeDiff, Nat.reduceBEq, Int.reduceBNe, vv f58r7.eq_1, uu f58b8.eq_1, uu f58b9.eq_1, vv f58r10.eq_1, uu f58b11.eq_1, uu f58b12.eq_1, vv f58r13.eq_1, uu f58b14.eq_1, uu f58b15.eq_1]
      rw [if_neg (by simp), if_neg hp] at hS
      exact hS
  · simp only [Qs, if_true, if_false, List.nodup_nil, Nat.reduceAdd, Nat.reduceBEq, Int.reduceBNe, vv f58r5.eq_1, uu f58b6.eq_1, uu f58b12.eq_1, vv f58r13.eq_1, uu f58b14.eq_1, uu f58b15.eq_1]
    exact hS
end Go.Abs


set_option maxRecDepth 100000
set_option maxHeartbeats 4000000
namespace Go.Abs
open Go.Proofs Go.Wire Go.RowKit Go.Jr
theorem norm_s' (nl : Option Bool) (l : List Txt) : (C.list 1 nl (strs l)).norm = lstC 1 (strs l) := by rw [norm_list, normRows_strs]
theorem norm_w' (nl : Option Bool) (l : List Wr) : (C.list 2 nl (wrs l)).norm = lstC 2 (wrs l) := by rw [norm_list, normRows_wrs]
theorem b19 (d : Disk) (h : Right d) : Spec Tryz.prog 41 [dV d] (fun r => r = resD (startD d)) := by
  refine Spec.of_awlP hf41 okf41 (by simp) fun S hS => ?_
  have c37 := b37 d h
  have c36 := s36 d h
  obtain ⟨secs, pend, left, down⟩ := d
  unfold startD at hS
  simp only [dV, encD] at *
  simp only [normRows_strs, normRows_wrs, Qs, if_true, bne_iff_ne, ne_eq, Nat.reduceAdd, Nat.reduceEqDiff, Nat.reduceBEq, uu f41.eq_1, vv f41r16.eq_1, uu f41b17.eq_1, uu f41b18.eq_1, vv f41r19.eq_1, uu f41b20.eq_1]
  refine call_s c37 ?_
  cases down
  · simp only [normRows_strs, normRows_wrs, Qs, if_true, if_false, List.append_nil, List.nodup_nil, Nat.reduceAdd, Nat.reduceLT, Nat.reduceBEq, vv f41r7.eq_1, uu f41b8.eq_1, uu f41b9.eq_1, vv f41r10.eq_1, uu f41b11.eq_1, uu f41b12.eq_1, uu f41b15.eq_1]
    exact fin_T hS (secs := []) (pend := []) rfl rfl rfl
  · simp only [normRows_strs, normRows_wrs, Qs, if_true, if_false, Nat.reduceAdd, Nat.reduceBEq, vv f41r5.eq_1, uu f41b6.eq_1, uu f41b9.eq_1, vv f41r10.eq_1, uu f41b11.eq_1, uu f41b12.eq_1, uu f41b15.eq_1]
    refine call_r c36 ?_
    simp only [normRows_strs, normRows_wrs, Qs, q_lookT_eq_1, q_V_reg_eq_2, q_K_regs_eq_1, q_K_regs_eq_2, q_K_regs_eq_3, q_freesL_eq_2, q_addsL_eq_2, if_true, or_true, bne_iff_ne, ne_eq, List.append_nil, List.mem_cons, List.nodup_nil, List.nodup_cons, Nat.reduceAdd, Nat.reduceMul, Nat.reduceEqDiff, Nat.reduceLT, Nat.reduceBEq, List.not_mem_nil, vv f41r1.eq_1, uu f41b2.eq_1, vv f41r3.eq_1, uu f41b4.eq_1]
    exact fin_K hS rfl rfl (norm_s' _ _) (norm_w' _ _) rfl
theorem b23 (d : Disk) (h : Right d) (k : Int) : Spec Tryz.prog 28 [dV d, .int .i64 k] (fun r => r = resD (armD d k)) := by
  refine Spec.of_awlP hf28 okf28 (by simp) fun S hS => ?_
  have c34 := b34 d h
  have c36 := s36 d h
  obtain ⟨secs, pend, left, down⟩ := d
  unfold armD at hS
  simp only [dV, encD] at *
  simp only [normRows_strs, normRows_wrs, Qs, if_true, bne_iff_ne, ne_eq, Nat.reduceAdd, Nat.reduceEqDiff, Nat.reduceBEq, uu f28.eq_1, vv f28r18.eq_1, uu f28b19.eq_1, uu f28b20.eq_1, vv f28r21.eq_1, uu f28b22.eq_1]
  refine call_s c34 ?_
  cases down
  · by_cases h1 : k < 0
    · simp only [h1, normRows_strs, normRows_wrs, Qs, if_true, if_false, List.append_nil, List.nodup_nil, Nat.reduceAdd, Nat.reduceLT, Nat.reduceBEq, Int.reduceBNe, vv f28r7.eq_1, uu f28b8.eq_1, uu f28b9.eq_1, vv f28r10.eq_1, uu f28b11.eq_1, uu f28b12.eq_1, uu f28b15.eq_1, vv f28r16.eq_1, uu f28b17.eq_1]
      rw [if_neg (by simp), if_pos (.inl h1)] at hS
      exact fin_T hS (secs := []) (pend := []) rfl rfl rfl
    · by_cases h2 : k > 512
      · simp only [h1, h2, normRows_strs, normRows_wrs, Qs, if_true, if_false, List.append_nil, List.nodup_nil, Nat.reduceAdd, Nat.reduceLT, Nat.reduceBEq, Int.reduceBNe, vv f28r7.eq_1, uu f28b8.eq_1, uu f28b9.eq_1, vv f28r10.eq_1, uu f28b11.eq_1, uu f28b12.eq_1, uu f28b15.eq_1, vv f28r16.eq_1, uu f28b17.eq_1]
        rw [if_neg (by simp), if_pos (.inr h2)] at hS
        exact fin_T hS (secs := []) (pend := []) rfl rfl rfl
      · simp only [h1, h2, normRows_strs, normRows_wrs, Qs, if_true, if_false, Nat.reduceAdd, Nat.reduceBEq, Int.reduceBNe, vv f28r5.eq_1, uu f28b6.eq_1, uu f28b9.eq_1, vv f28r10.eq_1, uu f28b11.eq_1, uu f28b12.eq_1, uu f28b15.eq_1, vv f28r16.eq_1, uu f28b17.eq_1]
        rw [if_neg (by simp), if_neg (fun h => h.elim h1 h2)] at hS
        refine call_r c36 ?_
        simp only [normRows_strs, normRows_wrs, Qs, q_lookT_eq_1, q_V_reg_eq_2, q_K_regs_eq_1, q_K_regs_eq_2, q_K_regs_eq_3, q_freesL_eq_2, q_addsL_eq_2, if_true, or_true, bne_iff_ne, ne_eq, List.append_nil, List.mem_cons, List.nodup_nil, List.nodup_cons, Nat.reduceAdd, Nat.reduceMul, Nat.reduceEqDiff, Nat.reduceLeDiff, Nat.reduceLT, Nat.reduceBEq, List.not_mem_nil, vv f28r1.eq_1, uu f28b2.eq_1, vv f28r3.eq_1, uu f28b4.eq_1]
        exact fin_K hS rfl rfl (norm_s' _ _) (norm_w' _ _) rfl
  · simp only [normRows_strs, normRows_wrs, Qs, if_true, List.append_nil, List.nodup_nil, Nat.reduceAdd, Nat.reduceLT, Nat.reduceBEq, Int.reduceBNe, vv f28r13.eq_1, uu f28b14.eq_1, uu f28b15.eq_1, vv f28r16.eq_1, uu f28b17.eq_1]
    exact fin_T hS (secs := []) (pend := []) rfl rfl rfl
theorem b28 (d : Disk) (h : Right d) (i : Int) (s : Txt) : Spec Tryz.prog 59 [dV d, .int .i64 i, .str s] (fun r => r = resD (writeD d i s)) := by
  refine Spec.of_awlP hf59 okf59 (by simp) fun S hS => ?_
  have c34 := b34 d h
  have c36 := s36 d h
  have hpe := h.pe
  obtain ⟨secs, pend, left, down⟩ := d
  unfold writeD at hS
  simp only [dV, encD] at *
  simp only [normRows_strs, normRows_wrs, Qs, if_true, bne_iff_ne, ne_eq, Nat.reduceAdd, Nat.reduceEqDiff, Nat.reduceBEq, uu f59.eq_1, vv f59r24.eq_1, uu f59b25.eq_1, uu f59b26.eq_1, vv f59r27.eq_1, uu f59b28.eq_1]
  refine call_s c34 ?_
  cases down
  · rw [if_neg (by simp)] at hS
    by_cases h1 : i < 0
    · simp only [h1, normRows_strs, normRows_wrs, Qs, if_true, if_false, List.append_nil, List.nodup_nil, Nat.reduceAdd, Nat.reduceLT, Nat.reduceBEq, Int.reduceBNe, vv f59r13.eq_1, uu f59b14.eq_1, uu f59b15.eq_1, vv f59r16.eq_1, uu f59b17.eq_1, uu f59b18.eq_1, uu f59b21.eq_1, vv f59r22.eq_1, uu f59b23.eq_1]
      rw [if_pos (.inl h1)] at hS
      exact fin_T hS (secs := []) (pend := []) rfl rfl rfl
    by_cases h2 : i ≥ secs.length
    · simp only [h1, h2, strs_len, normRows_strs, normRows_wrs, Qs, if_true, if_false, List.append_nil, List.nodup_nil, Nat.reduceAdd, Nat.reduceLeDiff, Nat.reduceLT, Nat.reduceBEq, Int.reduceBNe, vv f59r13.eq_1, uu f59b14.eq_1, uu f59b15.eq_1, vv f59r16.eq_1, uu f59b17.eq_1, uu f59b18.eq_1, uu f59b21.eq_1, vv f59r22.eq_1, uu f59b23.eq_1]
      rw [if_pos (.inr (.inl h2))] at hS
      exact fin_T hS (secs := []) (pend := []) rfl rfl rfl
    by_cases h3 : (s.length : Int) > 16
    · simp only [h1, h2, h3, strs_len, normRows_strs, normRows_wrs, Qs, if_true, if_false, List.append_nil, List.nodup_nil, Nat.reduceAdd, Nat.reduceLeDiff, Nat.reduceLT, Nat.reduceBEq, Int.reduceBNe, vv f59r13.eq_1, uu f59b14.eq_1, uu f59b15.eq_1, vv f59r16.eq_1, uu f59b17.eq_1, uu f59b18.eq_1, uu f59b21.eq_1, vv f59r22.eq_1, uu f59b23.eq_1]
      rw [if_pos (.inr (.inr (by omega)))] at hS
      exact fin_T hS (secs := []) (pend := []) rfl rfl rfl
    rw [if_neg (fun h => h.elim h1 fun h => h.elim h2 fun h => h3 (by omega))] at hS
    by_cases h4 : (pend.length : Int) = 512
    · simp only [h1, h2, h3, h4, strs_len, wrs_len, normRows_strs, normRows_wrs, Qs, if_true, if_false, BEq.rfl, List.append_nil, List.nodup_nil, Nat.reduceAdd, Nat.reduceLeDiff, Nat.reduceLT, Nat.reduceBEq, Int.reduceBNe, vv f59r7.eq_1, uu f59b8.eq_1, uu f59b9.eq_1, vv f59r10.eq_1, uu f59b11.eq_1, uu f59b12.eq_1, uu f59b15.eq_1, vv f59r16.eq_1, uu f59b17.eq_1, uu f59b18.eq_1, uu f59b21.eq_1, vv f59r22.eq_1, uu f59b23.eq_1]
      rw [if_pos (by omega)] at hS
      exact fin_T hS (secs := []) (pend := []) rfl rfl rfl
    rw [if_neg (by omega)] at hS
    have c43 := s43 (16 - s.length) (by omega)
    rw [show ((16 - s.length : Nat) : Int) = 16 - (s.length : Int) by omega] at c43
    have c5 : IntKind.i64.wrap (16 - (s.length : Int)) = 16 - (s.length : Int) := wrap_in (by omega) (by omega)
    simp only [h1, h2, h3, h4, c5, strs_len, wrs_len, normRows_strs, normRows_wrs, Qs, if_true, if_false, forall_const, List.append_nil, List.nodup_nil, Nat.reduceAdd, Nat.reduceLeDiff, Nat.reduceLT, Nat.reduceBEq, Int.reduceBNe, vv f59r5.eq_1, uu f59b6.eq_1, vv f59r7.eq_1, uu f59b8.eq_1, uu f59b9.eq_1, vv f59r10.eq_1, uu f59b11.eq_1, uu f59b12.eq_1, uu f59b15.eq_1, vv f59r16.eq_1, uu f59b17.eq_1, uu f59b18.eq_1, uu f59b21.eq_1, vv f59r22.eq_1, uu f59b23.eq_1]
    refine call_r c36 ?_
    simp only [h1, h2, h3, h4, c5, strs_len, wrs_len, normRows_strs, normRows_wrs, Qs, q_exLQ_eq_34, q_lookT_eq_1, q_V_reg_eq_2, q_K_regs_eq_1, q_K_regs_eq_2, q_K_regs_eq_3, q_freesL_eq_2, q_addsL_eq_2, if_true, if_false, or_true, bne_iff_ne, ne_eq, List.append_nil, Nat.reduceAdd, Nat.reduceMul, Nat.reduceEqDiff, Nat.reduceLeDiff, Nat.reduceBEq, vv f59r3.eq_1, uu f59b4.eq_1]
    refine ⟨rfl, _, c43, .inl rfl, ?_⟩
    simp only [h1, h2, h3, h4, c5, strs_len, wrs_len, normRows_strs, normRows_wrs, Qs, q_exLQ_eq_6, q_exLQ_eq_8, q_exLQ_eq_36, q_vBuild_eq_2, q_vRow_eq_2, q_bsQ_eq_1, q_srcV_eq_1, q_V_scrub_eq_2, q_V_scrub_eq_3, q_K_scrub_eq_2, q_O_scrub_eq_1, q_C_normRows_eq_2, q_List_isEmpty_cons, if_true, if_false, reduceCtorEq, forall_eq, List.append_nil, List.mem_cons, List.nodup_nil, List.nodup_cons, Nat.reduceAdd, Nat.reduceEqDiff, Nat.reduceLeDiff, Nat.reduceLT, Nat.reduceBEq, List.not_mem_nil, vv f59r1.eq_1, uu f59b2.eq_1]
    rw [show wrs pend ++ [[C.int IntKind.i64 i, C.str (s ++ zeros (16 - s.length))]] = wrs (pend ++ [⟨i, s ++ zeros (16 - s.length)⟩]) from wrs_snoc pend ⟨i, _⟩, normRows_wrs]
    exact ⟨by rw [zeros, List.length_replicate]; omega, by omega, by omega, fin_K hS rfl rfl (norm_s' _ _) (norm_w' _ _) rfl⟩
  · simp only [normRows_strs, normRows_wrs, Qs, if_true, List.append_nil, List.nodup_nil, Nat.reduceAdd, Nat.reduceLT, Nat.reduceBEq, Int.reduceBNe, vv f59r19.eq_1, uu f59b20.eq_1, uu f59b21.eq_1, vv f59r22.eq_1, uu f59b23.eq_1]
    exact fin_T hS (secs := []) (pend := []) rfl rfl rfl
end Go.Abs


set_option maxRecDepth 100000
set_option maxHeartbeats 4000000
namespace Go.Abs
open Go.Proofs Go.Wire Go.RowKit Go.Jr
theorem perf_snoc : ∀ (ws : List Wr) (l : List Txt) (w : Wr), perf l (ws ++ [w]) = (perf l ws).set w.pos.toNat w.text
  | [], l, w => rfl
  | x :: ws, l, w => by rw [List.cons_append, perf, perf, perf_snoc ws]
theorem perf_take {pend : List Wr} {l : List Txt} {j : Nat} (h : j < pend.length) : perf l (pend.take (j + 1)) = (perf l (pend.take j)).set (pend[j].pos.toNat) pend[j].text := by
  rw [List.take_add_one, List.getElem?_eq_getElem h]
  exact perf_snoc _ _ _
theorem of_orF {p : Prop} (h : p ∨ False) : p := h.elim id False.elim
theorem strs_set (l : List Txt) (i : Nat) (t : Txt) : (strs l).set i [.str t] = strs (l.set i t) := by simp [strs, encS, List.map_set]
theorem b29 (d : Disk) (h : Right d) : Spec Tryz.prog 61 [dV d] (fun r => r = resD (flushD d)) := by
  refine Spec.of_awlP hf61 okf61 (by simp) fun S hS => ?_
  have c34 := b34 d h
  have c36 := s36 d h
  have hpe := h.pe
  have hwr := h.wr
  have hse := h.se
  have hL0 := h.l0
  have hL1 := h.l1
  obtain ⟨secs, pend, left, down⟩ := d
  unfold flushD at hS
  simp only [dV, encD] at *
  simp only [normRows_strs, normRows_wrs, Qs, if_true, bne_iff_ne, ne_eq, Nat.reduceAdd, Nat.reduceEqDiff, Nat.reduceBEq, uu f61.eq_1, vv f61r51.eq_1, uu f61b52.eq_1, uu f61b53.eq_1, vv f61r54.eq_1, uu f61b55.eq_1]
  refine call_s c34 ?_
  cases down
  · rw [if_neg (by simp)] at hS
    have key : ∀ (n : Nat) (al : Bool) ts os, n ≤ pend.length → keepT ts [1, 2, 5, 6, 37, 38, 39] = [(1, .k (.ptr 1 0)), (2, .k (.ptr 2 0)), (5, .int .i64 n), (6, .bool al), (37, V.list 2 none (wrs (pend.take n))), (38, .int .i64 n), (39, .int .i64 (0 : Nat))] →
        keepO os [1, 2, 17, 75, 18000, 18001, 18002, 76000, 76001, 76002] = [(1, .var 25 [.own 18000, .c (.list 2 none (wrs pend)), .c (.int .i64 left), .c (.bool false)]), (2, .var 25 [.c (.list 0 (some true) []), .c (.list 0 (some true) []), .c (.int .i64 0), .c (.bool false)]), (18000, .arr 9 1 none (strs secs))] →
        (if al = true then n = pend.length ∧ ¬ (0 ≤ left ∧ left < pend.length) else left = n ∧ n < pend.length) →
        awl Tryz.prog f61l30 (AE.inBlockL 0 (AE.thenL (awl Tryz.prog f61b19 (endK [RX.cell 2 4 true, RX.t 3] S)) (endK [RX.cell 2 4 true, RX.t 3] S))) ts os := by
      intro n al ts os hn hts hos hal
      rw [uf61l30]
      refine awl_loop (fun j : Nat => [(1, .k (.ptr 1 0)), (2, .k (.ptr 2 0)), (5, .int .i64 n), (6, .bool al), (37, V.list 2 none (wrs (pend.take n))), (38, .int .i64 n), (39, .int .i64 j)])
        (fun j => [(1, .var 25 [.own 18000, .c (.list 2 none (wrs pend)), .c (.int .i64 left), .c (.bool false)]), (2, .var 25 [.c (.list 0 (some true) []), .c (.list 0 (some true) []), .c (.int .i64 0), .c (.bool false)]), (18000, .arr 9 1 none (strs (perf secs (pend.take j))))])
        (fun j => j ≤ n) (fun j => n - j) 0 hts hos (Nat.zero_le _) ?_
      intro j hj
      by_cases hlt : j < n
      · have c1 : (j : Int) < n := by omega
        have c4 : IntKind.i64.wrap ((j : Int) + 1) = (j : Int) + 1 := wrap_in (by omega) (by omega)
        have hjp : j < (pend.take n).length := by rw [List.length_take]; omega
        obtain ⟨w0, w1, w2⟩ := hwr _ (List.getElem_mem (show j < pend.length by omega))
        have e1 : (wrs (pend.take n)).getD j [] = [.int .i64 pend[j].pos, .str pend[j].text] := by rw [wrs_at hjp, List.getElem_take]
        obtain ⟨q, hq⟩ : ∃ q : Nat, pend[j].pos = q := ⟨pend[j].pos.toNat, by omega⟩
        have hq1 : q < secs.length := by omega
        simp only [strs_len, wrs_len, c1, c4, e1, hq, Qs, q_partV_eq_1, q_vIaddr_eq_1, q_stArrK_eq_1, q_storeK_eq_2, if_true, if_false, bne_iff_ne, ne_eq, List.append_nil, Nat.reduceAdd, Nat.reduceEqDiff, Nat.reduceLeDiff, Nat.reduceBEq, vv f61r20.eq_1, vv f61r21.eq_1, vv f61r22.eq_1, uu f61b23.eq_1, uu f61b24.eq_1, uu f61b25.eq_1, uu f61b26.eq_1, uu f61b27.eq_1, vv f61r28.eq_1, uu f61b29.eq_1]
        have e2 : (strs (perf secs (List.take j pend))).set q [C.str pend[j].text] = strs (perf secs (List.take (j + 1) pend)) := by
          rw [strs_set, perf_take (show j < pend.length by omega), hq, Int.toNat_natCast]
        rw [e2, perf_len]
        exact ⟨by omega, by omega, Next.intro (j + 1) rfl rfl (by omega) (by omega)⟩
      · obtain rfl : j = n := by omega
        have c1 : ¬ (j : Int) < j := by omega
        cases al
        · rw [if_neg (by simp)] at hal
          obtain ⟨hl, hjp⟩ := hal
          obtain ⟨w0, w1, w2⟩ := hwr _ (List.getElem_mem hjp)
          have e1 := wrs_at hjp
          obtain ⟨q, hq⟩ : ∃ q : Nat, pend[j].pos = q := ⟨pend[j].pos.toNat, by omega⟩
          have hq1 : q < secs.length := by omega
          have hpl := perf_len (pend.take j) secs
          have e3 := strs_at (l := perf secs (pend.take j)) (i := q) (by omega)
          have hps : ((perf secs (pend.take j))[q]'(by omega)).length = 16 := perf_se (pend.take j) secs hse (fun w hw => (hwr w (List.mem_of_mem_take hw)).2.2) _ (List.getElem_mem _)
          simp only [c1, e1, hq, e3, strs_len, wrs_len, Qs, q_exLQ_eq_21, q_partV_eq_1, q_vIaddr_eq_1, q_stArrK_eq_1, q_storeK_eq_2, if_true, if_false, bne_iff_ne, ne_eq, List.append_nil, Nat.reduceAdd, Nat.reduceEqDiff, Nat.reduceLeDiff, Nat.reduceBEq, Int.reduceLE, Int.reduceToNat, vv f61r10.eq_1, uu f61b11.eq_1, vv f61r12.eq_1, uu f61b13.eq_1, vv f61r14.eq_1, uu f61b15.eq_1, uu f61b16.eq_1, vv f61r17.eq_1, uu f61b18.eq_1, uu f61b19.eq_1, uu f61b26.eq_1, uu f61b27.eq_1, vv f61r28.eq_1, uu f61b29.eq_1]
          have e4 : (strs (perf secs (pend.take j))).set q [C.str (pend[j].text.take 8 ++ ((perf secs (pend.take j))[q]'(by omega)).drop 8)] = strs ((perf secs (pend.take j)).set q (pend[j].text.take 8 ++ ((perf secs (pend.take j))[q]'(by omega)).drop 8)) := strs_set _ _ _
          rw [List.take_length, e4, hps, w2]
          refine ⟨by omega, by decide, by omega, ⟨by decide, by decide⟩, by simp only [List.length_take, List.length_drop, hps, w2]; decide, by omega, ?_⟩
          refine call_f 18000 (by simp [look, lookT]) (by simp [V.hard, V.toks, Abs.K.toks]) (by simp [lookO, plainO]) ?_
          simp only [Qs, if_true, if_false, Nat.reduceEqDiff, z_V_agg, z_K_pel, z_O_var, z_agF1, z_V_agk, z_K_elem_arr, z_K_ptr_arr]
          refine of_orF (call_r (b35 ⟨(perf secs (pend.take j)).set q (pend[j].text.take 8 ++ ((perf secs (pend.take j))[q]'(by omega)).drop 8), pend, left, false⟩) ?_ (ha := by simp [lendL, V.norm, C.normRow, encD, norm_list, norm_lst, normRows_strs, normRows_wrs]))
          simp only [dV, encD, normRows_strs, normRows_wrs, Qs, if_true, Int.reduceNeg, List.append_nil, List.nodup_nil, Nat.reduceAdd, Nat.reduceMul, Nat.reduceLT, Nat.reduceBEq]
          subst hl
          rw [if_pos (by omega), Int.toNat_natCast, List.getD_eq_getElem?_getD, List.getElem?_eq_getElem hjp, Option.getD_some, hq, Int.toNat_natCast, List.getD_eq_getElem?_getD, List.getElem?_eq_getElem (show q < (perf secs (pend.take j)).length by omega), Option.getD_some] at hS
          exact fin_T hS (norm_s _) (norm_w []) rfl
        · rw [if_pos rfl] at hal
          obtain ⟨rfl, hl⟩ := hal
          rw [if_neg hl, List.take_length] at *
          simp only [c1, normRows_strs, List.take_length, Qs, if_true, if_false, List.append_nil, List.nodup_nil, List.nodup_cons, Nat.reduceAdd, Nat.reduceLeDiff, Nat.reduceLT, Nat.reduceBEq, List.not_mem_nil, vv f61r1.eq_1, uu f61b2.eq_1, vv f61r3.eq_1, uu f61b4.eq_1, vv f61r5.eq_1, uu f61b6.eq_1, uu f61b7.eq_1, vv f61r8.eq_1, uu f61b9.eq_1, uu f61b16.eq_1, vv f61r17.eq_1, uu f61b18.eq_1, uu f61b19.eq_1, uu f61b26.eq_1, uu f61b27.eq_1, vv f61r28.eq_1, uu f61b29.eq_1]
          have c5 : IntKind.i64.wrap (left - pend.length) = left - pend.length := wrap_in (by omega) (by omega)
          rw [c5]
          refine ⟨fun h0 => ?_, fun h0 => ?_⟩
          · rw [if_pos h0] at hS
            exact fin_K hS rfl rfl (norm_s' _ _) (norm_w [] : _) rfl
          · rw [if_neg h0] at hS
            obtain rfl : left = -1 := by omega
            exact fin_K hS rfl rfl (norm_s' _ _) (norm_w [] : _) rfl
    simp only [normRows_strs, normRows_wrs, Qs, if_true, if_false, Nat.reduceAdd, Nat.reduceBEq, Int.reduceBNe, vv f61r44.eq_1, uu f61b45.eq_1, uu f61b48.eq_1, vv f61r49.eq_1, uu f61b50.eq_1]
    refine call_r c36 ?_
    simp only [wrs_len, normRows_strs, normRows_wrs, Qs, q_exL_eq_19, q_lookT_eq_1, q_vLen_eq_1, q_cutL_eq_1, q_vSlice_eq_1, q_V_toks_eq_1, q_K_toks_eq_5, q_V_reg_eq_2, q_K_regs_eq_1, q_K_regs_eq_2, q_K_regs_eq_3, q_freesL_eq_2, q_addsL_eq_2, if_true, if_false, true_or, or_true, bne_iff_ne, ne_eq, Int.reduceNeg, List.append_nil, Nat.reduceAdd, Nat.reduceMul, Nat.reduceEqDiff, Nat.reduceLeDiff, Nat.reduceBEq, Int.reduceLE, z_V_agg, z_O_var, z_O_arr, q_awl_eq_14, z_agF2, z_V_agk, z_K_ptr_arr, uu f61b31.eq_1, vv f61r32.eq_1, uu f61b33.eq_1, uu f61b34.eq_1, vv f61r35.eq_1, uu f61b36.eq_1, vv f61r37.eq_1, uu f61b38.eq_1, uu f61b39.eq_1, vv f61r40.eq_1, uu f61b41.eq_1, vv f61r42.eq_1, uu f61b43.eq_1]
    rw [show (List.take pend.length (wrs pend)) = wrs (pend.take pend.length) from (List.map_take ..).symm]
    rw [wrs_len, List.length_take, Nat.min_self]
    refine ⟨fun h1 => ⟨by omega, key pend.length true _ _ (Nat.le_refl _) rfl rfl (by rw [if_pos rfl]; omega)⟩, fun h1 => ⟨fun h2 => ⟨by omega, ?_⟩, fun h2 => ?_⟩⟩
    · rw [show decide (left ≥ (pend.length : Int)) = true from decide_eq_true h2]
      exact key pend.length true _ _ (Nat.le_refl _) rfl rfl (by rw [if_pos rfl]; omega)
    · obtain ⟨k, rfl⟩ : ∃ k : Nat, left = k := ⟨left.toNat, by omega⟩
      rw [show decide ((k : Int) ≥ (pend.length : Int)) = false from decide_eq_false h2, Int.toNat_natCast, show (List.take k (wrs pend)) = wrs (pend.take k) from (List.map_take ..).symm, wrs_len, List.length_take, Nat.min_eq_left (by omega)]
      exact ⟨by omega, key k false _ _ (by omega) rfl rfl (by rw [if_neg (by simp)]; exact ⟨rfl, by omega⟩)⟩
  · simp only [normRows_strs, normRows_wrs, Qs, if_true, List.append_nil, List.nodup_nil, Nat.reduceAdd, Nat.reduceLT, Nat.reduceBEq, Int.reduceBNe, vv f61r46.eq_1, uu f61b47.eq_1, uu f61b48.eq_1, vv f61r49.eq_1, uu f61b50.eq_1]
    exact fin_T hS (secs := []) (pend := []) rfl rfl rfl
end Go.Abs


set_option maxRecDepth 100000
set_option maxHeartbeats 4000000
namespace Go.Abs
open Go.Proofs Go.Wire Go.RowKit Go.Jr
def numV (r : Option Nat) : V := match r with
  | some n => .tup [.int .i64 n, .bool true]
  | none => .tup [.int .i64 0, .bool false]
theorem valD_snoc (l : Txt) (c : UInt8) : valD (l ++ [c]) = valD l * 10 + (c.toNat - 48) := by simp [valD, List.foldl_append]
theorem valD_lt : ∀ (k : Nat) (l : Txt), l.length = k → l.all isDig = true → valD l < 10 ^ k
  | 0, l, h, _ => by
    obtain rfl : l = [] := List.eq_nil_of_length_eq_zero h
    simp [valD]
  | k + 1, l, h, hd => by
    obtain ⟨l', c, rfl⟩ : ∃ l' c, l = l' ++ [c] := ⟨l.dropLast, l.getLast (by rintro rfl; simp at h), (List.dropLast_concat_getLast _).symm⟩
    rw [List.all_append, Bool.and_eq_true] at hd
    have h2 : isDig c = true := by simpa using hd.2
    simp only [isDig, decide_eq_true_eq] at h2
    have := valD_lt k l' (by simpa using h) hd.1
    rw [valD_snoc, Nat.pow_succ]
    omega
theorem take_snoc {s : Txt} {i : Nat} (h : i < s.length) : s.take (i + 1) = s.take i ++ [s.getD i 0] := by
  rw [List.take_add_one, List.getD_eq_getElem?_getD, List.getElem?_eq_getElem h]; rfl
theorem b40 (s : Txt) (h : s.length = 16) : Spec Tryz.prog 88 [.str s] (fun r => r = numV (numT s)) := by
  refine Spec.of_awlS hf88 okf88 (by simp) fun S hS => ?_
  unfold numT at hS
  have b1 : (8 : Int) ≤ s.length := by omega
  simp only [b1, h, Qs, q_exLQ_eq_21, List.append_nil, List.nodup_nil, Nat.reduceBEq, Int.reduceLE, Int.reduceToNat, uu f88.eq_1, uu f88b20.eq_1, vv f88r21.eq_1, uu f88b22.eq_1, uu f88b23.eq_1, vv f88r24.eq_1, uu f88b25.eq_1, vv f88r26.eq_1, uu f88b27.eq_1, uu f88b28.eq_1, vv f88r29.eq_1, uu f88b30.eq_1, uu f88b31.eq_1, vv f88r32.eq_1, uu f88b33.eq_1]
  rw [List.take_of_length_le (by omega : s.length ≤ 16)]
  refine ⟨fun he => ?_, fun he => ?_⟩
  · rw [uf88l19]
    refine awl_loop (fun i : Nat => [(0, .str s), (4, .int .i64 (valD (s.take i) : Nat)), (11, .int .i64 i)]) (fun _ => [])
      (fun i => i ≤ 8 ∧ (s.take i).all isDig = true) (fun i => 8 - i) 0 rfl rfl ⟨by decide, rfl⟩ ?_
    rintro i ⟨hi, hd⟩
    by_cases hlt : i < 8
    · have c1 : (i : Int) < 8 := by omega
      have c2 : (i : Int) < s.length := by omega
      have c4 : IntKind.i64.wrap ((i : Int) + 1) = (i : Int) + 1 := wrap_in (by omega) (by omega)
      simp only [c1, c2, c4, h, Qs, q_exL_eq_16, q_vConv_eq_1, if_true, if_false, List.append_nil, List.nodup_nil, Nat.reduceBEq, vv f88r3.eq_1, vv f88r4.eq_1, vv f88r5.eq_1, uu f88b6.eq_1, uu f88b7.eq_1, vv f88r8.eq_1, uu f88b9.eq_1, uu f88b10.eq_1, vv f88r11.eq_1, uu f88b12.eq_1, uu f88b13.eq_1, uu f88b14.eq_1, uu f88b15.eq_1, uu f88b16.eq_1, vv f88r17.eq_1, uu f88b18.eq_1]
      have hts := take_snoc (s := s) (i := i) (by omega)
      have hval : (valD (s.take i)) < 10 ^ i := valD_lt i _ (by rw [List.length_take]; omega) hd
      have hval8 : valD (s.take i) < 100000000 := Nat.lt_of_lt_of_le hval (Nat.pow_le_pow_right (n := 10) (by decide) hi)
      have hmem : isDig (s.getD i 0) = false → (s.take 8).all isDig = false := by
        intro hc
        rw [List.all_eq_false]
        refine ⟨s.getD i 0, ?_, by rw [hc]; simp⟩
        rw [List.getD_eq_getElem?_getD, List.getElem?_eq_getElem (show i < s.length by omega), Option.getD_some, List.mem_take_iff_getElem]
        exact ⟨i, by omega, rfl⟩
      generalize hcc : s.getD i 0 = c at hts hmem
      generalize hm : valD (s.take i) = m at hval8 ⊢
      have hbad : isDig c = false → S (V.tup [V.k (K.c (C.int IntKind.i64 0)), V.k (K.c (C.bool false))]) := by
        intro hc
        rw [if_neg (fun h => by rw [hmem hc] at h; exact absurd h.2 (by simp))] at hS
        exact hS
      refine ⟨by omega, fun g => hbad ?_, fun g1 => ⟨by omega, fun g => hbad ?_, fun g2 => ⟨by omega, ?_⟩⟩⟩
      · simp [isDig]; omega
      · simp [isDig]; omega
      · have w1 : IntKind.u8.wrap ((c.toNat : Int) - 48) = (c.toNat : Int) - 48 := by unfold IntKind.wrap; simp [IntKind.signed, IntKind.bits]; omega
        have w2 : IntKind.i64.wrap ((c.toNat : Int) - 48) = (c.toNat : Int) - 48 := wrap_in (by omega) (by omega)
        have w3 : IntKind.i64.wrap (10 * (m : Int)) = 10 * (m : Int) := wrap_in (by omega) (by omega)
        have w4 : IntKind.i64.wrap (10 * (m : Int) + ((c.toNat : Int) - 48)) = ((m * 10 + (c.toNat - 48) : Nat) : Int) := by rw [wrap_in (by omega) (by omega)]; omega
        have e : m * 10 + (c.toNat - 48) = valD (s.take (i + 1)) := by rw [hts, valD_snoc, hm]
        have hd2 : (s.take (i + 1)).all isDig = true := by
          rw [hts, List.all_append, hd]
          simp [isDig]
          omega
        rw [w1, w2, w3, w4, e]
        exact Next.intro (i + 1) rfl rfl ⟨by omega, hd2⟩ (by omega)
    · obtain rfl : i = 8 := by omega
      have c1 : ¬ ((8 : Nat) : Int) < 8 := by omega
      simp only [c1, Qs, if_true, List.append_nil, List.nodup_nil, Nat.reduceBEq, Int.reduceLT, vv f88r1.eq_1, uu f88b2.eq_1, uu f88b15.eq_1, uu f88b16.eq_1, vv f88r17.eq_1, uu f88b18.eq_1]
      rw [if_pos ⟨he, hd⟩] at hS
      exact hS
  · rw [if_neg (fun h => he h.1)] at hS
    exact hS
end Go.Abs


set_option maxRecDepth 100000
set_option maxHeartbeats 4000000
namespace Go.Abs
open Go.Proofs Go.Wire Go.RowKit Go.Jr
theorem callQ_R {P : Program} {f : FuncId} {vs args : List V} {r : V} {K : KK} {d : Nat} {ts : TS} {os : OS} (hs : Spec P f args (fun r' => r' = r)) (hk : K (insT d r.fz ts) os)
    (hp : vs.all (fun v => (lendL os v).isPure) = true) (ha : vs.map (fun v => (lendL os v).norm) = args) (ht : vs.all (fun v => v.toks.isEmpty) = true) : callQK P f vs [] K d ts os :=
  ⟨hp, r, by simpa [ha] using hs, .inr ht, hk⟩
theorem right_push {secs : List Txt} {pend : List Wr} {left : Int} {i : Int} {t : Txt} (h : Right ⟨secs, pend, left, false⟩) (h0 : 0 ≤ i) (h1 : i < secs.length) (ht : t.length = 16) (hp : pend.length < 512) : Right ⟨secs, pend ++ [⟨i, t⟩], left, false⟩ := by
  refine ⟨h.lo, h.hi, ?_, h.l0, h.l1, fun h => (by cases h), h.se, fun w hw => ?_⟩
  · show (pend ++ [_]).length ≤ 512
    rw [List.length_append, List.length_singleton]; omega
  · rcases List.mem_append.1 hw with hw | hw
    · exact h.wr w hw
    · simp at hw; subst hw; exact ⟨h0, h1, ht⟩
theorem b17 (d : Disk) (h : Right d) : Spec Tryz.prog 32 [dV d] (fun r => r = resD (formatJ d)) := by
  refine Spec.of_awlP hf32 okf32 (by simp) fun S hS => ?_
  have c33 := b33 d h
  obtain ⟨secs, pend, left, down⟩ := d
  unfold formatJ at hS
  simp only [dV, encD] at *
  simp only [normRows_strs, normRows_wrs, Qs, if_true, bne_iff_ne, ne_eq, Nat.reduceAdd, Nat.reduceEqDiff, Nat.reduceBEq, uu f32.eq_1, vv f32r29.eq_1, uu f32b30.eq_1, uu f32b31.eq_1, vv f32r32.eq_1, uu f32b33.eq_1]
  refine call_s c33 ?_
  by_cases hr : readyD ⟨secs, pend, left, down⟩ = 0
  · rw [if_neg (by simp [hr])] at hS
    by_cases h2 : (secs.length : Int) ≤ 2
    · simp only [hr, h2, strs_len, normRows_strs, normRows_wrs, Qs, if_true, if_false, List.append_nil, List.nodup_nil, Nat.reduceAdd, Nat.reduceLeDiff, Nat.reduceLT, Nat.reduceBEq, Int.reduceBNe, vv f32r18.eq_1, uu f32b19.eq_1, uu f32b20.eq_1, vv f32r21.eq_1, uu f32b22.eq_1, uu f32b23.eq_1, uu f32b26.eq_1, vv f32r27.eq_1, uu f32b28.eq_1]
      rw [if_pos (show secs.length ≤ 2 by omega)] at hS
      exact fin_T hS (secs := []) (pend := []) rfl rfl rfl
    · rw [if_neg (show ¬ secs.length ≤ 2 by omega)] at hS
      simp only [hr, h2, strs_len, normRows_strs, normRows_wrs, Qs, if_true, if_false, Nat.reduceAdd, Nat.reduceLeDiff, Nat.reduceBEq, Int.reduceBNe, uu f32b14.eq_1, vv f32r15.eq_1, uu f32b16.eq_1, uu f32b17.eq_1, uu f32b20.eq_1, vv f32r21.eq_1, uu f32b22.eq_1, uu f32b23.eq_1, uu f32b26.eq_1, vv f32r27.eq_1, uu f32b28.eq_1]
      obtain ⟨hdn, rfl⟩ : down = false ∧ pend = [] := by
        unfold readyD at hr
        simp only [] at hr
        cases down
        · refine ⟨rfl, ?_⟩
          by_cases hp : pend = []
          · exact hp
          · rw [if_neg (by simp), if_neg hp] at hr; cases hr
        · simp at hr
      subst hdn
      obtain ⟨D, hD0, hD1, hD2⟩ : ∃ D : Nat → List Wr, D 0 = [] ∧ D 1 = [⟨0, hdr 0⟩] ∧ D 2 = [⟨0, hdr 0⟩, ⟨1, hdr 0⟩] := ⟨fun i => List.take i [⟨0, hdr 0⟩, ⟨1, hdr 0⟩], rfl, rfl, rfl⟩
      have hlen : (hdr 0).length = 16 := hdr_len 0
      have hR0 : Right ⟨secs, D 0, left, false⟩ := by rw [hD0]; exact h
      have hR1 : Right ⟨secs, D 1, left, false⟩ := by rw [hD1]; exact right_push h (by omega) (by omega) hlen (by simp)
      have hR2 : Right ⟨secs, D 2, left, false⟩ := by rw [hD2]; exact right_push (pend := [⟨0, hdr 0⟩]) (by rw [← hD1]; exact hR1) (by omega) (by omega) hlen (by simp)
      have hw : ∀ i, i < 2 → Right ⟨secs, D i, left, false⟩ ∧ writeD ⟨secs, D i, left, false⟩ i (hdr 0) = (⟨secs, D (i + 1), left, false⟩, 0) := by
        intro i hi
        rcases (by omega : i = 0 ∨ i = 1) with rfl | rfl
        · refine ⟨hR0, ?_⟩
          rw [writeD_ok rfl (by omega) (by show (0 : Int) < secs.length; omega) (by omega) (by rw [hD0]; simp)]
          rw [pad_hdr]
          show ((⟨secs, D 0 ++ [⟨0, hdr 0⟩], left, false⟩ : Disk), (0 : Int)) = (⟨secs, D 1, left, false⟩, 0)
          rw [hD0, hD1]; rfl
        · refine ⟨hR1, ?_⟩
          rw [writeD_ok rfl (by omega) (by show (1 : Int) < secs.length; omega) (by omega) (by rw [hD1]; simp)]
          rw [pad_hdr]
          show ((⟨secs, D 1 ++ [⟨1, hdr 0⟩], left, false⟩ : Disk), (0 : Int)) = (⟨secs, D 2, left, false⟩, 0)
          rw [hD1, hD2]; rfl
      rw [uf32l13]
      refine awl_loop (fun i : Nat => [(1, .k (.ptr 1 0)), (2, .k (.ptr 2 0)), (17, .int .i64 i)]) (fun i => [(1, objC secs (D i) left false), (2, .var 25 [.c (.list 0 (some true) []), .c (.list 0 (some true) []), .c (.int .i64 0), .c (.bool false)])])
        (fun i => i ≤ 2) (fun i => 2 - i) 0 rfl (by rw [hD0]; rfl) (by decide) ?_
      intro i hi
      by_cases hlt : i < 2
      · have c1 : (i : Int) < 2 := by omega
        have c4 : IntKind.i64.wrap ((i : Int) + 1) = (i : Int) + 1 := wrap_in (by omega) (by omega)
        obtain ⟨hRi, hwi⟩ := hw i hlt
        simp only [c1, c4, Qs, if_true, Nat.reduceAdd, Nat.reduceBEq, vv f32r3.eq_1, vv f32r4o0.eq_1, vv f32r4o1.eq_1, vv f32r4o2.eq_1, vv f32r4o3.eq_1, vv f32r4o4.eq_1, vv f32r4o5.eq_1, vv f32r4o6.eq_1, vv f32r4o7.eq_1, utf32r4, vv f32r5.eq_1, uu f32b6.eq_1, uu f32b7.eq_1, uu f32b8.eq_1, uu f32b9.eq_1, uu f32b10.eq_1, vv f32r11.eq_1, uu f32b12.eq_1]
        refine ⟨rfl, _, s30 0 (by decide), .inl rfl, ?_⟩
        simp only [c1, c4, Qs, Nat.reduceBEq]
        refine callQ_R (b28 _ hRi i (hdr 0)) ?_ rfl (by simp [lendL, V.norm, C.normRow, dV, encD, norm_list, norm_lst, normRows_strs, normRows_wrs]) rfl
        rw [hwi]
        simp only [resD, dV, encD, normRows_strs, normRows_wrs, c1, c4, Qs, q_exLQ_eq_28, q_V_fz_eq_2, q_V_fz_eq_4, q_V_fzL_eq_1, q_V_fzL_eq_2, if_true, List.append_nil, Nat.reduceAdd, Nat.reduceBEq]
        exact Next.intro (i + 1) rfl rfl (by omega) (by omega)
      · obtain rfl : i = 2 := by omega
        have c1 : ¬ ((2 : Nat) : Int) < 2 := by omega
        simp only [c1, Qs, if_true, Nat.reduceAdd, Nat.reduceBEq, Int.reduceLT, vv f32r1.eq_1, uu f32b2.eq_1, uu f32b9.eq_1, uu f32b10.eq_1, vv f32r11.eq_1, uu f32b12.eq_1]
        have c29 := b29 _ hR2
        simp only [dV, encD] at c29
        refine call_r c29 ?_
        have e0 : writeD ⟨secs, [], left, false⟩ 0 (hdr 0) = (⟨secs, D 1, left, false⟩, 0) := by have := (hw 0 (by decide)).2; rw [hD0] at this; exact this
        have e1 : writeD ⟨secs, D 1, left, false⟩ 1 (hdr 0) = (⟨secs, D 2, left, false⟩, 0) := (hw 1 (by decide)).2
        rw [e0] at hS
        simp only [] at hS
        rw [e1] at hS
        simp only [] at hS
        generalize flushD ⟨secs, D 2, left, false⟩ = x at hS ⊢
        obtain ⟨⟨xs, xp, xl, xb⟩, xe⟩ := x
        simp only [resD, dV, encD, normRows_strs, normRows_wrs, Qs, if_true, List.append_nil, List.nodup_nil, Nat.reduceAdd, Nat.reduceMul, Nat.reduceLT, Nat.reduceBEq]
        exact fin_T hS (norm_s _) (norm_w _) rfl
  · have hr1 : (readyD ⟨secs, pend, left, down⟩ != 0) = true := by simpa using hr
    simp only [hr1, normRows_strs, normRows_wrs, Qs, if_true, List.append_nil, List.nodup_nil, Nat.reduceAdd, Nat.reduceLT, Nat.reduceBEq, vv f32r24.eq_1, uu f32b25.eq_1, uu f32b26.eq_1, vv f32r27.eq_1, uu f32b28.eq_1]
    rw [if_pos hr] at hS
    exact fin_T hS (secs := []) (pend := []) rfl rfl rfl
end Go.Abs


set_option maxRecDepth 100000
set_option maxHeartbeats 4000000
namespace Go.Abs
open Go.Proofs Go.Wire Go.RowKit Go.Jr
def resC (x : Con × Int) : V := .tup [.agg [lstC 1 (strs x.1.list), .str x.1.bytes, .int .i64 x.1.cur], .int .i64 x.2]
theorem fin_C {S : V → Prop} {X : V} (h : ∀ r, r.fz.nrm = X → S r) {c1 : C} {b : Txt} {cur e : Int} {l : List Txt} (h1 : c1.norm = lstC 1 (strs l)) (hX : X = resC (⟨l, b, cur⟩, e)) : S (.tup [.agg [c1, .str b, .int .i64 cur], .k (.c (.int .i64 e))]) := by
  refine h _ ?_
  simp only [V.fz, V.nrm, V.fzL, V.nrmL, Abs.K.fz, Abs.K.nrm, C.normRow, h1, norm_int, norm_str, hX, resC]
theorem fin_CK {S : V → Prop} {X : V} (h : ∀ r, r.fz.nrm = X → S r) {k1 : K} {c1 : C} {b : Txt} {cur e : Int} {l : List Txt} (e1 : k1.fz = .c c1) (h1 : c1.norm = lstC 1 (strs l)) (hX : X = resC (⟨l, b, cur⟩, e)) : S (.tup [.agk [k1, .c (.str b), .c (.int .i64 cur)], .k (.c (.int .i64 e))]) := by
  refine h _ ?_
  have : V.fz (.agk [k1, .c (.str b), .c (.int .i64 cur)]) = .agg [c1, .str b, .int .i64 cur] := by
    simp only [V.fz, List.map_cons, List.map_nil, e1]; rfl
  rw [show (V.tup [V.agk [k1, .c (.str b), .c (.int .i64 cur)], V.k (K.c (C.int IntKind.i64 e))]).fz = .tup [V.fz (.agk [k1, .c (.str b), .c (.int .i64 cur)]), .k (.c (.int .i64 e))] from rfl, this]
  simp only [V.nrmL, V.nrm, C.normRow, h1, norm_int, norm_str, hX, resC, Abs.K.nrm]
def obR (bytes : Txt) (cur : Int) : List Txt → OS
  | [] => [(2, .var 72 [.c (.list 0 (some true) []), .c (.str []), .c (.int .i64 0)]), (5, .var 72 [.c (.list 0 (some true) []), .c (.str bytes), .c (.int .i64 cur)])]
  | a :: l => [(2, .var 72 [.c (.list 0 (some true) []), .c (.str []), .c (.int .i64 0)]), (5, .var 72 [.own 103, .c (.str bytes), .c (.int .i64 cur)]), (103, .arr 9 1 (some false) (strs (a :: l)))]
theorem flat_16 : ∀ (l : List Txt), (∀ s ∈ l, s.length = 16) → l.flatten.length = 16 * l.length
  | [], _ => by simp
  | s :: l, h => by
    rw [List.flatten_cons, List.length_append, flat_16 l fun x hx => h x (List.mem_cons_of_mem _ hx), h s List.mem_cons_self, List.length_cons]
    omega
theorem readyD_eq {d : Disk} (h : readyD d = 0) : d.down = false ∧ d.pend = [] := by
  unfold readyD at h
  by_cases hd : d.down = true
  · rw [if_pos hd] at h; cases h
  · rw [if_neg hd] at h
    by_cases hp : d.pend = []
    · exact ⟨by simpa using hd, hp⟩
    · rw [if_neg hp] at h; cases h
theorem b27 (d : Disk) (h : Right d) : Spec Tryz.prog 66 [dV d] (fun r => r = resC (readJ d)) := by
  refine Spec.of_awlP hf66 okf66 (by simp) fun S hS => ?_
  have c33 := b33 d h
  have hse := h.se
  have hhi := h.hi
  obtain ⟨secs, pend, left, down⟩ := d
  unfold readJ logD at hS
  simp only [dV, encD] at *
  simp only [normRows_strs, normRows_wrs, Qs, if_true, bne_iff_ne, ne_eq, Nat.reduceAdd, Nat.reduceEqDiff, Nat.reduceBEq, uu f66.eq_1, vv f66r54.eq_1, uu f66b55.eq_1, uu f66b56.eq_1, vv f66r57.eq_1, uu f66b58.eq_1]
  refine call_s c33 ?_
  by_cases hr : readyD ⟨secs, pend, left, down⟩ = 0
  · rw [if_neg (by simp [hr])] at hS
    by_cases h2 : (secs.length : Int) ≤ 2
    · simp only [hr, h2, strs_len, normRows_strs, normRows_wrs, Qs, if_true, if_false, List.append_nil, List.nodup_nil, Nat.reduceAdd, Nat.reduceLeDiff, Nat.reduceLT, Nat.reduceBEq, Int.reduceBNe, vv f66r43.eq_1, uu f66b44.eq_1, uu f66b45.eq_1, vv f66r46.eq_1, uu f66b47.eq_1, uu f66b48.eq_1, uu f66b51.eq_1, vv f66r52.eq_1, uu f66b53.eq_1]
      rw [if_pos (show secs.length ≤ 2 by omega)] at hS
      exact fin_C hS (l := []) rfl rfl
    · rw [if_neg (show ¬ secs.length ≤ 2 by omega)] at hS
      have g0 := strs_at (l := secs) (i := 0) (by omega)
      have g1 := strs_at (l := secs) (i := 1) (by omega)
      have p0 : (0 : Int) < secs.length := by omega
      have p1 : (1 : Int) < secs.length := by omega
      have d0 : secs.getD 0 [] = secs[0] := by rw [List.getD_eq_getElem?_getD, List.getElem?_eq_getElem (by omega)]; rfl
      have d1 : secs.getD 1 [] = secs[1] := by rw [List.getD_eq_getElem?_getD, List.getElem?_eq_getElem (by omega)]; rfl
      rw [d0, d1] at hS
      have c0 := b40 secs[0] (hse _ (List.getElem_mem _))
      have c1 := b40 secs[1] (hse _ (List.getElem_mem _))
      have hfl := flat_16 (secs.drop 2) fun x hx => hse x (List.mem_of_mem_drop hx)
      rw [List.length_drop] at hfl
      have c41 := s41 (secs.drop 2) (by rw [List.length_drop]; omega) (by omega)
      have keyL : ∀ (N : Nat) (bytes : Txt) (cur : Int) ts os, bytes.length ≤ N → bytes.length ≤ 1000000 → keepT ts [2, 5, 11] = [(2, .k (.ptr 2 0)), (5, .k (.ptr 5 0)), (11, .str bytes)] → keepO os [2, 5, 103] = obR bytes cur [] →
          (∀ r, r.fz.nrm = resC (match pz N bytes with
          | none => (⟨[], [], 0⟩, 22)
          | some l => if l.length > 500 then (⟨[], [], 0⟩, 22) else (⟨l, bytes, cur⟩, 0)) → S r) →
          awl Tryz.prog f66l17 (AE.inBlockL 0 (AE.thenL (awl Tryz.prog f66b2 (endK [RX.cell 2 3 true, RX.t 3] S)) (endK [RX.cell 2 3 true, RX.t 3] S))) ts os := by
        intro N bytes cur ts os hN hb hts hos hS
        rw [uf66l17]
        refine awl_loop (fun x : List Txt × Txt => [(2, .k (.ptr 2 0)), (5, .k (.ptr 5 0)), (11, .str x.2)]) (fun x => obR bytes cur x.1)
          (fun x => x.2.length ≤ 1000000 ∧ x.1.length ≤ 500 ∧ ∃ k, x.2.length ≤ k ∧ (pz k x.2).map (x.1 ++ ·) = pz N bytes) (fun x => x.2.length) ([], bytes) hts hos ⟨hb, by simp, N, hN, by cases pz N bytes <;> simp⟩ ?_
        rintro ⟨acc, rest⟩ ⟨g1, g2, k, g3, g4⟩
        simp only [] at g1 g2 g3 g4
        match rest, g1, g3, g4 with
        | [], g1, g3, g4 =>
          have g5 : pz N bytes = some acc := by rw [← g4]; cases k <;> simp [pz]
          rw [g5] at hS
          simp only [if_neg (show ¬ acc.length > 500 by omega)] at hS
          cases acc with
          | nil =>
            simp only [obR, Qs, if_true, BEq.rfl, List.append_nil, List.nodup_nil, Nat.reduceAdd, Nat.reduceLT, Nat.reduceBEq, vv f66r1.eq_1, uu f66b2.eq_1, uu f66b13.eq_1, vv f66r14.eq_1, uu f66b15.eq_1, uu f66b16.eq_1]
            exact fin_C hS (l := []) rfl rfl
          | cons a l =>
            simp only [obR, Qs, if_true, BEq.rfl, List.append_nil, List.nodup_nil, List.nodup_cons, Nat.reduceAdd, Nat.reduceLT, Nat.reduceBEq, List.not_mem_nil, vv f66r1.eq_1, uu f66b2.eq_1, uu f66b13.eq_1, vv f66r14.eq_1, uu f66b15.eq_1, uu f66b16.eq_1]
            rw [normRows_strs]
            exact fin_CK hS rfl (norm_s' _ _) rfl
        | c :: t, g1, g3, g4 =>
          have hne : (c :: t : Txt) ≠ [] := by simp
          obtain ⟨k', rfl⟩ : ∃ k', k = k' + 1 := ⟨k - 1, by simp only [List.length_cons] at g3; omega⟩
          have hpz : pz (k' + 1) (c :: t) = (rS (c :: t)).bind fun p => if p.1.length > 2000 then none else (pz k' p.2).map (p.1 :: ·) := rfl
          generalize (c :: t : Txt) = rest at g1 g3 g4 hne hpz
          rw [hpz] at g4
          have c42 := w19 rest (by omega)
          have hbad : (pz N bytes = none ∨ ∃ l, pz N bytes = some l ∧ l.length > 500) → ∀ r, r.fz.nrm = resC (⟨[], [], 0⟩, 22) → S r := by
            intro hp
            rcases hp with hp | ⟨l, hp, hl⟩
            · rw [hp] at hS; exact hS
            · rw [hp] at hS; simp only [if_pos hl] at hS; exact hS
          have hloop : ∀ s r, rS rest = some (s, r) → r.length < rest.length := by
            intro s r hs
            have h1 := ((reads_S rest s r).1 hs).2
            have h2 : 1 ≤ (wS s).length := by rw [wS, List.length_append, wI, List.length_append, List.length_singleton]; omega
            rw [h1, List.length_append]; omega
          cases hs : rS rest with
          | none =>
            rw [hs] at g4
            have hb2 := hbad (.inl (by rw [← g4]; rfl))
            cases acc with
            | nil =>
              simp only [obR, hne, Qs, if_true, forall_const, List.append_nil, List.nodup_nil, Nat.reduceAdd, Nat.reduceLT, Nat.reduceBEq, vv f66r1.eq_1, uu f66b2.eq_1, vv f66r10.eq_1, uu f66b11.eq_1, uu f66b12.eq_1, uu f66b13.eq_1, vv f66r14.eq_1, uu f66b15.eq_1, uu f66b16.eq_1]
              refine call_s c42 ?_ (hr := resS_scalar _)
              simp only [hs, resS, Qs, if_true, List.append_nil, List.nodup_nil, Nat.reduceAdd, Nat.reduceLT, Nat.reduceBEq, vv f66r3.eq_1, vv f66r4.eq_1, uu f66b5.eq_1, uu f66b6.eq_1, vv f66r7.eq_1, uu f66b8.eq_1, uu f66b9.eq_1]
              exact fin_C hb2 (l := []) rfl rfl
            | cons a l =>
              simp only [obR, hne, Qs, if_true, forall_const, List.append_nil, List.nodup_nil, List.nodup_cons, Nat.reduceAdd, Nat.reduceLT, Nat.reduceBEq, List.not_mem_nil, vv f66r1.eq_1, uu f66b2.eq_1, vv f66r10.eq_1, uu f66b11.eq_1, uu f66b12.eq_1, uu f66b13.eq_1, vv f66r14.eq_1, uu f66b15.eq_1, uu f66b16.eq_1]
              refine call_s c42 ?_ (hr := resS_scalar _)
              simp only [hs, resS, Qs, if_true, List.append_nil, List.nodup_nil, Nat.reduceAdd, Nat.reduceLT, Nat.reduceBEq, vv f66r3.eq_1, vv f66r4.eq_1, uu f66b5.eq_1, uu f66b6.eq_1, vv f66r7.eq_1, uu f66b8.eq_1, uu f66b9.eq_1]
              exact fin_C hb2 (l := []) rfl rfl
          | some p =>
            obtain ⟨s, r⟩ := p
            rw [hs] at g4
            have hrl := hloop s r hs
            simp only [Option.bind_some] at g4
            by_cases h5 : (s.length : Int) > 2000
            · rw [if_pos (show s.length > 2000 by omega)] at g4
              have hb2 := hbad (.inl (by rw [← g4]; rfl))
              cases acc with
              | nil =>
                simp only [obR, hne, Qs, if_true, forall_const, List.append_nil, List.nodup_nil, Nat.reduceAdd, Nat.reduceLT, Nat.reduceBEq, vv f66r1.eq_1, uu f66b2.eq_1, vv f66r10.eq_1, uu f66b11.eq_1, uu f66b12.eq_1, uu f66b13.eq_1, vv f66r14.eq_1, uu f66b15.eq_1, uu f66b16.eq_1]
                refine call_s c42 ?_ (hr := resS_scalar _)
                simp only [hs, h5, resS, Qs, if_true, if_false, List.append_nil, List.nodup_nil, Nat.reduceAdd, Nat.reduceLT, Nat.reduceBEq, vv f66r3.eq_1, vv f66r4.eq_1, uu f66b5.eq_1, uu f66b6.eq_1, vv f66r7.eq_1, uu f66b8.eq_1, uu f66b9.eq_1]
                exact fin_C hb2 (l := []) rfl rfl
              | cons a l =>
                simp only [obR, hne, Qs, if_true, forall_const, List.append_nil, List.nodup_nil, List.nodup_cons, Nat.reduceAdd, Nat.reduceLT, Nat.reduceBEq, List.not_mem_nil, vv f66r1.eq_1, uu f66b2.eq_1, vv f66r10.eq_1, uu f66b11.eq_1, uu f66b12.eq_1, uu f66b13.eq_1, vv f66r14.eq_1, uu f66b15.eq_1, uu f66b16.eq_1]
                refine call_s c42 ?_ (hr := resS_scalar _)
                simp only [hs, h5, resS, Qs, if_true, if_false, List.append_nil, List.nodup_nil, Nat.reduceAdd, Nat.reduceLT, Nat.reduceBEq, vv f66r3.eq_1, vv f66r4.eq_1, uu f66b5.eq_1, uu f66b6.eq_1, vv f66r7.eq_1, uu f66b8.eq_1, uu f66b9.eq_1]
                exact fin_C hb2 (l := []) rfl rfl
            · rw [if_neg (show ¬ s.length > 2000 by omega)] at g4
              have g4' : (pz k' r).map ((acc ++ [s]) ++ ·) = pz N bytes := by
                rw [← g4]
                cases pz k' r <;> simp
              cases acc with
              | nil =>
                simp only [obR, hne, Qs, if_true, forall_const, List.append_nil, List.nodup_nil, Nat.reduceAdd, Nat.reduceLT, Nat.reduceBEq, vv f66r1.eq_1, uu f66b2.eq_1, vv f66r10.eq_1, uu f66b11.eq_1, uu f66b12.eq_1, uu f66b13.eq_1, vv f66r14.eq_1, uu f66b15.eq_1, uu f66b16.eq_1]
                refine call_s c42 ?_ (hr := resS_scalar _)
                simp only [hs, h5, resS, Qs, q_vLen_eq_1, q_appNK_eq_1, q_appendK_eq_2, if_true, if_false, forall_eq, bne_iff_ne, ne_eq, List.mem_cons, Nat.reduceAdd, Nat.reduceMul, Nat.reduceEqDiff, Nat.reduceLeDiff, Nat.reduceLT, Nat.reduceBEq, Int.reduceBEq, List.not_mem_nil, vv f66r3.eq_1, uu f66b6.eq_1, vv f66r7.eq_1, uu f66b8.eq_1, uu f66b9.eq_1]
                exact Next.intro ([s], r) rfl rfl ⟨by show r.length ≤ 1000000; omega, by simp, k', by show r.length ≤ k'; omega, g4'⟩ hrl
              | cons a l =>
                have hb2 : (((l.length + 1 : Nat) : Int) = 500) → ∀ r, r.fz.nrm = resC (⟨[], [], 0⟩, 22) → S r := fun h6 => hbad (by
                    rw [← g4]
                    cases pz k' r with
                    | none => exact .inl rfl
                    | some l2 => exact .inr ⟨_, rfl, by simp only [List.length_append, List.length_cons]; omega⟩)
                simp only [obR, hne, Qs, if_true, forall_const, List.append_nil, List.nodup_nil, List.nodup_cons, Nat.reduceAdd, Nat.reduceLT, Nat.reduceBEq, List.not_mem_nil, vv f66r1.eq_1, uu f66b2.eq_1, vv f66r10.eq_1, uu f66b11.eq_1, uu f66b12.eq_1, uu f66b13.eq_1, vv f66r14.eq_1, uu f66b15.eq_1, uu f66b16.eq_1]
                refine call_s c42 ?_ (hr := resS_scalar _)
                simp only [hs, h5, strs_len, resS, Qs, q_vLen_eq_2, q_lenO_eq_1, q_V_scrub_eq_5, q_K_scrub_eq_2, q_O_scrub_eq_1, if_true, if_false, forall_eq, bne_iff_ne, ne_eq, List.append_nil, List.mem_cons, List.nodup_nil, Nat.reduceAdd, Nat.reduceEqDiff, Nat.reduceLeDiff, Nat.reduceLT, Nat.reduceBEq, List.not_mem_nil, vv f66r3.eq_1, vv f66r4.eq_1, uu f66b5.eq_1, uu f66b6.eq_1, vv f66r7.eq_1, uu f66b8.eq_1, uu f66b9.eq_1]
                simp only [List.length_cons] at g2
                refine ⟨fun h6 => fin_C (hb2 h6) (l := []) rfl rfl, fun h6 => ⟨by omega, by omega, Next.intro (a :: l ++ [s], r) rfl ?_ ⟨by show r.length ≤ 1000000; omega, by simp only [List.length_append, List.length_cons, List.length_nil]; omega, k', by show r.length ≤ k'; omega, g4'⟩ hrl⟩⟩
                simp only [obR, List.cons_append]
                rw [← List.cons_append, ← strs_snoc]
                rfl
      have key : ∀ (N : Nat) (cur : Int) (o1 o2 : Bool), (∀ r, r.fz.nrm = resC (if (o1 || o2) = false then (⟨[], [], 0⟩, 22) else if N > ((secs.drop 2).flatten).length then (⟨[], [], 0⟩, 22) else
          match pz N (((secs.drop 2).flatten).take N) with
          | none => (⟨[], [], 0⟩, 22)
          | some l => if l.length > 500 then (⟨[], [], 0⟩, 22) else (⟨l, ((secs.drop 2).flatten).take N, cur⟩, 0)) → S r) →
          awl Tryz.prog f66b31 (endK [RX.cell 2 3 true, RX.t 3] S) [(1, .k (.ptr 1 0)), (2, .k (.ptr 2 0)), (5, .k (.ptr 5 0)), (6, .int .i64 N), (7, .bool o1), (9, .bool o2)]
            [(1, objC secs pend left down), (2, .var 72 [.c (.list 0 (some true) []), .c (.str []), .c (.int .i64 0)]), (5, .var 72 [.c (.list 0 (some true) []), .c (.str []), .c (.int .i64 cur)])] := by
        intro N cur o1 o2 hS
        simp only [strs_len, Qs, q_exL_eq_19, q_V_toks_eq_1, q_K_toks_eq_5, if_false, Nat.reduceAdd, Nat.reduceLeDiff, r_vSlice_lst, r_cutS2, Int.reduceLE, Int.reduceToNat, vv f66r30.eq_1, uu f66b31.eq_1]
        refine ⟨⟨by omega, Int.le_refl _⟩, ?_⟩
        rw [show List.drop 2 (List.take secs.length (strs secs)) = strs (secs.drop 2) by rw [List.take_of_length_le (by rw [strs_len]; exact Nat.le_refl _)]; simp [strs, List.map_drop]]
        refine call_s c41 ?_ (ha := by show [V.k (K.c (C.norm (C.list 1 none (strs (secs.drop 2))))), V.k (K.c (C.str []))] = _; rw [norm_s'])
        generalize (secs.drop 2).flatten = log at hfl hS c41
        by_cases ho : (o1 || o2) = false
        · rw [if_pos ho] at hS
          obtain ⟨rfl, rfl⟩ : o1 = false ∧ o2 = false := by simpa using ho
          simp only [Qs, if_true, List.append_nil, List.nodup_nil, Nat.reduceAdd, Nat.reduceLT, Nat.reduceBEq, vv f66r24.eq_1, uu f66b25.eq_1, uu f66b26.eq_1, vv f66r27.eq_1, uu f66b28.eq_1, uu f66b29.eq_1]
          exact fin_C hS (l := []) rfl rfl
        · rw [if_neg ho] at hS
          by_cases hN : (N : Int) > log.length
          · rw [if_pos (by omega)] at hS
            cases o1 <;> cases o2
            · exact absurd rfl ho
            all_goals
              simp only [hN, Qs, if_true, if_false, List.append_nil, List.nodup_nil, Nat.reduceAdd, Nat.reduceLT, Nat.reduceBEq, vv f66r24.eq_1, uu f66b25.eq_1, uu f66b26.eq_1, vv f66r27.eq_1, uu f66b28.eq_1, uu f66b29.eq_1]
              exact fin_C hS (l := []) rfl rfl
          · rw [if_neg (by omega)] at hS
            cases o1 <;> cases o2
            · exact absurd rfl ho
            all_goals
              simp only [hN, Qs, if_true, if_false, Nat.reduceAdd, Nat.reduceLeDiff, Nat.reduceBEq, Int.reduceLE, uu f66b18.eq_1, vv f66r19.eq_1, uu f66b20.eq_1, uu f66b21.eq_1, vv f66r22.eq_1, uu f66b23.eq_1, uu f66b26.eq_1, vv f66r27.eq_1, uu f66b28.eq_1, uu f66b29.eq_1]
              exact ⟨by omega, keyL N (log.take N) cur _ _ (by rw [List.length_take]; omega) (by rw [List.length_take]; omega) rfl rfl hS⟩
      simp only [hr, h2, g0, g1, p0, p1, strs_len, normRows_strs, normRows_wrs, Qs, if_true, if_false, bne_iff_ne, ne_eq, Nat.reduceAdd, Nat.reduceEqDiff, Nat.reduceLeDiff, Nat.reduceBEq, Int.reduceLE, Int.reduceBNe, vv f66r39.eq_1, uu f66b40.eq_1, vv f66r41.eq_1, uu f66b42.eq_1, uu f66b45.eq_1, vv f66r46.eq_1, uu f66b47.eq_1, uu f66b48.eq_1, uu f66b51.eq_1, vv f66r52.eq_1, uu f66b53.eq_1]
      refine call_s c0 ?_ (hr := by unfold numV; split <;> rfl)
      cases hA : numT secs[0] with
      | none =>
        rw [hA] at hS
        simp only [numV, hr, h2, g0, g1, p0, p1, strs_len, normRows_strs, normRows_wrs, Qs, if_false, Nat.reduceAdd, Nat.reduceLeDiff, Nat.reduceBEq, Int.reduceLE, Int.reduceToNat, vv f66r37.eq_1, uu f66b38.eq_1]
        refine call_s c1 ?_ (hr := by unfold numV; split <;> rfl)
        cases hB : numT secs[1] with
        | none =>
          rw [hB] at hS
          simp only [numV, hr, h2, g0, g1, p0, p1, strs_len, normRows_strs, normRows_wrs, Qs, Nat.reduceBEq, vv f66r32.eq_1, uu f66b33.eq_1, vv f66r34.eq_1, uu f66b35.eq_1, uu f66b36.eq_1]
          exact key 0 0 false false hS
        | some m =>
          rw [hB] at hS
          simp only [numV, hr, h2, g0, g1, p0, p1, strs_len, normRows_strs, normRows_wrs, Qs, if_true, List.append_nil, Nat.reduceAdd, Nat.reduceBEq, vv f66r32.eq_1, uu f66b33.eq_1, vv f66r34.eq_1, uu f66b35.eq_1, uu f66b36.eq_1]
          exact key m 1 false true hS
      | some n =>
        rw [hA] at hS
        simp only [numV, hr, h2, g0, g1, p0, p1, strs_len, normRows_strs, normRows_wrs, Qs, if_false, Nat.reduceAdd, Nat.reduceLeDiff, Nat.reduceBEq, Int.reduceLE, Int.reduceToNat, vv f66r37.eq_1, uu f66b38.eq_1]
        refine call_s c1 ?_ (hr := by unfold numV; split <;> rfl)
        cases hB : numT secs[1] with
        | none =>
          rw [hB] at hS
          simp only [numV, hr, h2, g0, g1, p0, p1, strs_len, normRows_strs, normRows_wrs, Qs, Nat.reduceBEq, vv f66r32.eq_1, uu f66b33.eq_1, vv f66r34.eq_1, uu f66b35.eq_1, uu f66b36.eq_1]
          exact key n 0 true false hS
        | some m =>
          rw [hB] at hS
          by_cases hmn : m > n
          · have hmn' : (m : Int) > n := by omega
            simp only [numV, hr, h2, g0, g1, p0, p1, hmn', strs_len, normRows_strs, normRows_wrs, Qs, if_true, if_false, List.append_nil, Nat.reduceAdd, Nat.reduceBEq, vv f66r32.eq_1, uu f66b33.eq_1, vv f66r34.eq_1, uu f66b35.eq_1, uu f66b36.eq_1]
            simp only [curD, if_pos hmn] at hS
            exact key m 1 true true hS
          · have hmn' : ¬ (m : Int) > n := by omega
            simp only [numV, hr, h2, g0, g1, p0, p1, hmn', strs_len, normRows_strs, normRows_wrs, Qs, if_true, if_false, Nat.reduceBEq, vv f66r32.eq_1, uu f66b33.eq_1, vv f66r34.eq_1, uu f66b35.eq_1, uu f66b36.eq_1]
            simp only [curD, if_neg hmn] at hS
            exact key n 0 true true hS
  · have hr1 : (readyD ⟨secs, pend, left, down⟩ != 0) = true := by simpa using hr
    simp only [hr1, normRows_strs, normRows_wrs, Qs, if_true, List.append_nil, List.nodup_nil, Nat.reduceAdd, Nat.reduceLT, Nat.reduceBEq, vv f66r49.eq_1, uu f66b50.eq_1, uu f66b51.eq_1, vv f66r52.eq_1, uu f66b53.eq_1]
    rw [if_pos hr] at hS
    exact fin_C hS (l := []) rfl rfl
end Go.Abs


set_option maxRecDepth 100000
set_option maxHeartbeats 4000000
namespace Go.Abs
open Go.Proofs Go.Wire Go.RowKit Go.Jr
theorem b20 (d : Disk) (h : Right d) : Spec Tryz.prog 35 [dV d] (fun r => r = .tup [lst 1 (strs (readJ d).1.list), .int .i64 (readJ d).2]) := by
  refine Spec.of_awlS hf35 okf35 (by simp) fun S hS => ?_
  have c27 := b27 d h
  generalize readJ d = x at c27 hS
  obtain ⟨⟨xl, xb, xc⟩, xe⟩ := x
  obtain ⟨secs, pend, left, down⟩ := d
  simp only [dV, encD, resC] at *
  simp only [normRows_strs, normRows_wrs, Qs, if_true, bne_iff_ne, ne_eq, Nat.reduceAdd, Nat.reduceEqDiff, Nat.reduceBEq, uu f35.eq_1, vv f35r3.eq_1, uu f35b4.eq_1, vv f35r5.eq_1, uu f35b6.eq_1]
  refine call_r c27 ?_
  simp only [normRows_strs, normRows_wrs, Qs, if_true, if_false, bne_iff_ne, ne_eq, List.append_nil, List.nodup_nil, Nat.reduceAdd, Nat.reduceMul, Nat.reduceEqDiff, Nat.reduceLeDiff, Nat.reduceBEq, vv f35r1.eq_1, uu f35b2.eq_1]
  exact hS
end Go.Abs


set_option maxRecDepth 100000
set_option maxHeartbeats 4000000
namespace Go.Abs
open Go.Proofs Go.Wire Go.RowKit Go.Jr
theorem r39 (d : Disk) (h : Right d) : Spec Tryz.prog 42 [dV d] (fun r => r = .int .i64 0) := by
  refine Spec.of_awlS hf42 okf42 (by simp) fun S hS => ?_
  obtain ⟨secs, pend, left, down⟩ := d
  have hlo : 1 ≤ secs.length := h.lo
  have hhi : secs.length ≤ 512 := h.hi
  have hpe : pend.length ≤ 512 := h.pe
  have hl0 : -1 ≤ left := h.l0
  have hl1 : left ≤ 512 := h.l1
  have hse : ∀ s ∈ secs, s.length = 16 := h.se
  have hwr : ∀ w ∈ pend, 0 ≤ w.pos ∧ w.pos < secs.length ∧ w.text.length = 16 := h.wr
  have l0 : ¬ (secs.length : Int) < 1 := by omega
  have l1 : ¬ (secs.length : Int) > 512 := by omega
  have p1 : ¬ (pend.length : Int) > 512 := by omega
  have f0 : ¬ left < -1 := by omega
  have f1 : ¬ left > 512 := by omega
  have hpl : down = true → ¬ (pend.length : Int) > 0 ∧ (left != -1) = false := fun e => by
    obtain ⟨e1, e2⟩ := h.dn e
    have e1 : pend = [] := e1
    have e2 : left = -1 := e2
    subst e1 e2
    exact ⟨by simp, rfl⟩
  simp only [encD, strs_len, wrs_len, l0, l1, p1, f0, f1, Qs, if_true, if_false, Int.reduceNeg, Nat.reduceAdd, Nat.reduceLeDiff, Nat.reduceBEq, uu f42.eq_1, uu f42b41.eq_1, vv f42r42.eq_1, uu f42b43.eq_1, uu f42b44.eq_1, uu f42b47.eq_1, vv f42r48.eq_1, uu f42b49.eq_1, uu f42b50.eq_1, vv f42r51.eq_1, uu f42b52.eq_1]
  rw [uf42l40]
  refine awl_loop (fun i : Nat => [(1, .k (.ptr 1 0)), (3, .int .i64 i)]) (fun _ => [(1, objC secs pend left down)])
    (fun i => i ≤ secs.length) (fun i => secs.length - i) 0 rfl rfl (Nat.zero_le _) ?_
  intro i hi
  by_cases hlt : i < secs.length
  · have c1 : (i : Int) < secs.length := by omega
    have c4 : IntKind.i64.wrap ((i : Int) + 1) = (i : Int) + 1 := wrap_in (by omega) (by omega)
    have c2 := hse _ (List.getElem_mem hlt)
    simp only [strs_len, c1, c2, c4, strs_at hlt, Qs, if_true, if_false, Nat.reduceAdd, Nat.reduceLeDiff, Nat.reduceBEq, Int.reduceBNe, vv f42r28.eq_1, uu f42b31.eq_1, vv f42r32.eq_1, uu f42b33.eq_1, uu f42b34.eq_1, uu f42b35.eq_1, uu f42b36.eq_1, vv f42r37.eq_1, uu f42b38.eq_1, uu f42b39.eq_1]
    exact Next.intro (i + 1) rfl rfl (by omega) (by omega)
  · have c1 : ¬ (i : Int) < secs.length := by omega
    simp only [strs_len, wrs_len, c1, Qs, if_true, if_false, Nat.reduceAdd, Nat.reduceLeDiff, Nat.reduceBEq, uu f42b24.eq_1, vv f42r25.eq_1, uu f42b26.eq_1, uu f42b27.eq_1, uu f42b36.eq_1, vv f42r37.eq_1, uu f42b38.eq_1, uu f42b39.eq_1]
    rw [uf42l23]
    refine awl_loop (fun i : Nat => [(1, .k (.ptr 1 0)), (4, .int .i64 i)]) (fun _ => [(1, objC secs pend left down)])
      (fun i => i ≤ pend.length) (fun i => pend.length - i) 0 rfl rfl (Nat.zero_le _) ?_
    intro i hi
    by_cases hlt : i < pend.length
    · have c1 : (i : Int) < pend.length := by omega
      have c4 : IntKind.i64.wrap ((i : Int) + 1) = (i : Int) + 1 := wrap_in (by omega) (by omega)
      obtain ⟨w0, w1, w2⟩ := hwr _ (List.getElem_mem hlt)
      have c5 : ¬ pend[i].pos < 0 := by omega
      have c6 : ¬ pend[i].pos ≥ secs.length := by omega
      simp only [strs_len, wrs_len, c1, c4, c5, c6, w2, wrs_at hlt, Qs, q_partV_eq_1, if_true, if_false, bne_iff_ne, ne_eq, List.append_nil, Nat.reduceAdd, Nat.reduceEqDiff, Nat.reduceLeDiff, Nat.reduceBEq, Int.reduceBNe, vv f42r9.eq_1, uu f42b12.eq_1, vv f42r13.eq_1, uu f42b14.eq_1, vv f42r15.eq_1, uu f42b16.eq_1, uu f42b17.eq_1, uu f42b18.eq_1, uu f42b19.eq_1, vv f42r20.eq_1, uu f42b21.eq_1, uu f42b22.eq_1]
      exact Next.intro (i + 1) rfl rfl (by omega) (by omega)
    · have c1 : ¬ (i : Int) < pend.length := by omega
      cases down
      · simp only [wrs_len, c1, Qs, if_true, if_false, Int.reduceNeg, List.nodup_nil, Nat.reduceAdd, Nat.reduceLeDiff, Nat.reduceBEq, vv f42r1.eq_1, uu f42b2.eq_1, uu f42b5.eq_1, vv f42r6.eq_1, uu f42b7.eq_1, uu f42b8.eq_1, uu f42b19.eq_1, vv f42r20.eq_1, uu f42b21.eq_1, uu f42b22.eq_1]
        exact hS
      · obtain ⟨e1, e2⟩ := hpl rfl
        simp only [wrs_len, c1, e1, e2, Qs, if_true, if_false, Int.reduceNeg, List.nodup_nil, Nat.reduceAdd, Nat.reduceLeDiff, Nat.reduceBEq, vv f42r1.eq_1, uu f42b2.eq_1, uu f42b5.eq_1, vv f42r6.eq_1, uu f42b7.eq_1, uu f42b8.eq_1, uu f42b19.eq_1, vv f42r20.eq_1, uu f42b21.eq_1, uu f42b22.eq_1]
        exact hS
theorem r38 (d : Disk) (h : Right d) : Spec Tryz.prog 86 [dV d] (fun r => r = .int .i64 (if d.down = true then 8 else 0)) := by
  refine Spec.of_awlS hf86 okf86 (by simp) fun S hS => ?_
  have c39 := r39 d h
  obtain ⟨secs, pend, left, down⟩ := d
  simp only [dV, encD] at *
  simp only [normRows_strs, normRows_wrs, Qs, if_true, Nat.reduceAdd, Nat.reduceBEq, uu f86.eq_1, vv f86r9.eq_1, uu f86b10.eq_1, vv f86r11.eq_1, uu f86b12.eq_1]
  refine call_s c39 ?_
  cases down <;> simp only [Qs, if_true, if_false, BEq.rfl, List.nodup_nil, Nat.reduceAdd, Nat.reduceBEq, vv f86r1.eq_1, uu f86b2.eq_1, vv f86r3.eq_1, uu f86b4.eq_1, uu f86b5.eq_1, vv f86r6.eq_1, uu f86b7.eq_1, uu f86b8.eq_1] <;> exact hS
end Go.Abs


set_option maxRecDepth 100000
set_option maxHeartbeats 4000000
namespace Go.Abs
open Go.Proofs Go.Wire Go.RowKit Go.Jr
end Go.Abs


set_option maxRecDepth 100000
set_option maxHeartbeats 4000000
namespace Go.Abs
open Go.Proofs Go.Wire Go.RowKit Go.Jr
end Go.Abs


set_option maxRecDepth 100000
set_option maxHeartbeats 4000000
namespace Go.Abs
open Go.Proofs Go.Wire Go.RowKit Go.Jr
theorem curD_01 {a b : Option Nat} {c : Int} {n : Nat} (h : curD a b = some (c, n)) : c = 0 ∨ c = 1 := by
  unfold curD at h
  split at h
  · cases h
  · cases h; exact .inl rfl
  · cases h; exact .inr rfl
  · split at h
    · cases h; exact .inr rfl
    · cases h; exact .inl rfl
theorem log_le {d : Disk} (h : Right d) : (logD d).length ≤ 16 * (d.secs.length - 2) := by
  rw [logD, flat_16 _ fun x hx => h.se x (List.mem_of_mem_drop hx), List.length_drop]
  exact Nat.le_refl _
theorem read_facts (d : Disk) (h : Right d) : (readJ d).1.bytes.length ≤ 8192 ∧ ((readJ d).2 = 0 → ((readJ d).1.cur = 0 ∨ (readJ d).1.cur = 1) ∧ d.down = false ∧ d.pend = [] ∧ 2 < d.secs.length) := by
  have hl := log_le h
  have hhi := h.hi
  unfold readJ
  by_cases hr : readyD d = 0
  · rw [if_neg (by simp [hr])]
    obtain ⟨e1, e2⟩ := readyD_eq hr
    by_cases h2 : d.secs.length ≤ 2
    · rw [if_pos h2]; exact ⟨by simp, by simp⟩
    · rw [if_neg h2]
      split
      · exact ⟨by simp, by simp⟩
      · rename_i c n hc
        split
        · exact ⟨by simp, by simp⟩
        · split
          · exact ⟨by simp, by simp⟩
          · split
            · exact ⟨by simp, by simp⟩
            · refine ⟨by simp only [List.length_take]; omega, fun _ => ⟨curD_01 hc, e1, e2, by omega⟩⟩
  · rw [if_pos hr]
    exact ⟨by simp, fun h => absurd h hr⟩
theorem right_flush {d : Disk} (h : Right d) (hu : d.down = false) : Right (flushD d).1 ∧ ((flushD d).2 = 0 → (flushD d).1.down = false ∧ (flushD d).1.pend = [] ∧ (flushD d).1.secs.length = d.secs.length) := by
  have hl0 := h.l0
  have hl1 := h.l1
  have hpp : ∀ (ws : List Wr), (∀ w ∈ ws, w ∈ d.pend) → ∀ s ∈ perf d.secs ws, s.length = 16 := fun ws hw => perf_se _ _ h.se fun w hx => (h.wr w (hw w hx)).2.2
  by_cases hk : 0 ≤ d.left ∧ d.left < d.pend.length
  · rw [flush_torn hu hk]
    have hl : (perf d.secs (d.pend.take d.left.toNat)).length = d.secs.length := perf_len _ _
    have hp := hpp (d.pend.take d.left.toNat) fun w hw => List.mem_of_mem_take hw
    have hkl : d.left.toNat < d.pend.length := by omega
    have hgd : d.pend.getD d.left.toNat default = d.pend[d.left.toNat] := by rw [List.getD_eq_getElem?_getD, List.getElem?_eq_getElem hkl]; rfl
    obtain ⟨w0, w1, w2⟩ := h.wr _ (List.getElem_mem hkl)
    refine ⟨⟨by simp only [List.length_set]; rw [hl]; exact h.lo, by simp only [List.length_set]; rw [hl]; exact h.hi, by simp, by simp, by simp, fun _ => ⟨rfl, rfl⟩, ?_, fun w hw => absurd hw (by simp)⟩, fun e => absurd e (by simp)⟩
    refine set_se hp ?_
    rw [hgd, List.length_append, List.length_take, List.length_drop, w2, getD_se hp (by omega)]
    decide
  · rw [flush_all hu hk]
    have hl : (perf d.secs d.pend).length = d.secs.length := perf_len _ _
    refine ⟨⟨by rw [hl]; exact h.lo, by rw [hl]; exact h.hi, by simp, ?_, ?_, fun e => absurd e (by simp), hpp _ fun _ h => h, fun w hw => absurd hw (by simp)⟩, fun _ => ⟨rfl, rfl, hl⟩⟩
    · show -1 ≤ (if 0 ≤ d.left then d.left - d.pend.length else -1 : Int)
      split <;> omega
    · show (if 0 ≤ d.left then d.left - d.pend.length else -1 : Int) ≤ 512
      split <;> omega
theorem chunk_is {all : Txt} {j : Nat} (h : 16 * j < all.length) : List.drop ((j : Int) * 16).toNat (List.take (if (all.length : Int) < ((j : Int) + 1) * 16 then (all.length : Int) else ((j : Int) + 1) * 16).toNat all) = (all.drop (16 * j)).take 16 := by
  rw [show ((j : Int) * 16).toNat = 16 * j by omega]
  split
  · rw [Int.toNat_natCast, List.take_length, List.take_of_length_le (by rw [List.length_drop]; omega)]
  · rw [show (((j : Int) + 1) * 16).toNat = 16 * j + 16 by omega, List.drop_take, show 16 * j + 16 - 16 * j = 16 by omega]
theorem b11 (d : Disk) (h : Right d) (s : Txt) (hs : s.length ≤ 1000000000) : Spec Tryz.prog 39 [dV d, .str s] (fun r => r = resD (appendJ d s)) := by
  refine Spec.of_awlP hf39 okf39 (by simp) fun S hS => ?_
  have c27 := b27 d h
  have c12 := w11 s (by omega)
  unfold appendJ at hS
  obtain ⟨hb, hrd⟩ := read_facts d h
  generalize readJ d = x at c27 hS hb hrd
  obtain ⟨⟨xl, xb, xc⟩, xe⟩ := x
  have hse := h.se
  have hhi := h.hi
  obtain ⟨secs, pend, left, down⟩ := d
  simp only [dV, encD, resC] at *
  simp only [normRows_strs, normRows_wrs, Qs, if_true, bne_iff_ne, ne_eq, Nat.reduceAdd, Nat.reduceEqDiff, Nat.reduceBEq, uu f39.eq_1, vv f39r45.eq_1, uu f39b46.eq_1, vv f39r47.eq_1, uu f39b48.eq_1]
  refine call_r c27 ?_
  simp only [normRows_strs, normRows_wrs, Qs, if_false, bne_iff_ne, ne_eq, List.append_nil, Nat.reduceAdd, Nat.reduceMul, Nat.reduceEqDiff, Nat.reduceLeDiff, Nat.reduceBEq, vv f39r43.eq_1, uu f39b44.eq_1]
  refine ⟨rfl, _, c12, .inl rfl, ?_⟩
  have hws := wS_le (s := s) (by omega)
  have b1 : xb.length + (wS s).length ≤ 9223372036854775807 := by omega
  simp only [b1, normRows_strs, normRows_wrs, Qs, q_cutInt_eq_4, if_true, if_false, ne_eq, List.append_nil, List.nodup_nil, Nat.reduceAdd, Nat.reduceLeDiff, Nat.reduceLT, Nat.reduceBEq, Int.reduceEq, uu f39b22.eq_1, vv f39r23.eq_1, uu f39b24.eq_1, uu f39b25.eq_1, vv f39r26.eq_1, uu f39b27.eq_1, vv f39r28.eq_1, uu f39b29.eq_1, vv f39r30.eq_1, uu f39b31.eq_1, uu f39b32.eq_1, vv f39r33.eq_1, uu f39b34.eq_1, uu f39b35.eq_1, vv f39r36.eq_1, uu f39b37.eq_1, uu f39b38.eq_1, vv f39r39.eq_1, uu f39b40.eq_1, uu f39b41.eq_1, uu f39b42.eq_1]
  by_cases he : xe = 0
  · subst he
    obtain ⟨hc, hdn, hpd, h2⟩ := hrd rfl
    subst hdn hpd
    rw [if_neg (by simp)] at hS
    by_cases h1 : (s.length : Int) > 2000
    · rw [if_pos (show s.length > 2000 by omega)] at hS
      simp only [h1, normRows_strs, normRows_wrs, Qs, forall_const, Int.reduceBNe]
      exact fin_T hS (secs := []) (pend := []) rfl rfl rfl
    · rw [if_neg (show ¬ s.length > 2000 by omega)] at hS
      have w2 : IntKind.i64.wrap ((secs.length : Int) - 2) = (secs.length : Int) - 2 := wrap_in (by omega) (by omega)
      have w3 : IntKind.i64.wrap (((secs.length : Int) - 2) * 16) = ((secs.length : Int) - 2) * 16 := wrap_in (by omega) (by omega)
      have w4 : IntKind.i64.wrap ((xb.length : Int).tdiv 16) = ((xb.length / 16 : Nat) : Int) := by
        rw [Int.tdiv_eq_ediv_of_nonneg (by omega), wrap_in (by omega) (by omega)]; omega
      simp only [h1, w2, w3, w4, strs_len, normRows_strs, normRows_wrs, Qs, forall_const, Int.reduceBNe]
      generalize hall : xb ++ wS s = all at hS ⊢
      have hal : all.length ≤ 100000 := by rw [← hall, List.length_append]; omega
      have hat : xb.length / 16 ≤ 512 := by omega
      generalize xb.length / 16 = at0 at hS hat ⊢
      refine ⟨fun g => ?_, fun g => ⟨fun g2 => ?_, fun g2 => ?_⟩⟩
      · rw [if_pos (.inl (by omega))] at hS
        exact fin_T hS (secs := []) (pend := []) rfl rfl rfl
      · rw [if_pos (.inr (by omega))] at hS
        exact fin_T hS (secs := []) (pend := []) rfl rfl rfl
      · rw [if_neg (by omega)] at hS
        have hfit : all.length ≤ (secs.length - 2) * 16 := by omega
        rw [uf39l21]
        refine awl_loop (fun x : Nat × Disk => [(2, .k (.ptr 2 0)), (4, .k (.ptr 4 0)), (6, .k (.ptr 6 0)), (8, .str all), (9, .int .i64 x.1)])
          (fun x => [(2, objC x.2.secs x.2.pend x.2.left x.2.down), (4, .var 25 [.c (.list 0 (some true) []), .c (.list 0 (some true) []), .c (.int .i64 0), .c (.bool false)]), (6, .var 72 [.c (lstC 1 (strs xl)), .c (.str xb), .c (.int .i64 xc)])])
          (fun x => Right x.2 ∧ x.2.down = false ∧ x.2.secs.length = secs.length ∧ x.2.pend.length ≤ x.1 ∧ x.1 ≤ 512 + all.length ∧ ∃ k, all.length ≤ 16 * (x.1 + k) ∧ putJ all k x.1 x.2 = putJ all all.length at0 ⟨secs, [], left, false⟩)
          (fun x => all.length + 1 - x.1) (at0, ⟨secs, [], left, false⟩) rfl rfl ⟨h, rfl, rfl, by simp, by omega, all.length, by omega, rfl⟩ ?_
        rintro ⟨j, secs2, pend2, left2, down2⟩ ⟨g1, g2, g3, g4, g5, k, g6, g7⟩
        simp only [] at g2 g3 g4 g5 g6 g7
        subst g2
        have w5 : IntKind.i64.wrap ((j : Int) * 16) = (j : Int) * 16 := wrap_in (by omega) (by omega)
        by_cases hlt : 16 * j < all.length
        · have c1 : (j : Int) * 16 < all.length := by omega
          have w6 : IntKind.i64.wrap (2 + (j : Int)) = 2 + (j : Int) := wrap_in (by omega) (by omega)
          have w7 : IntKind.i64.wrap ((j : Int) + 1) = (j : Int) + 1 := wrap_in (by omega) (by omega)
          have w8 : IntKind.i64.wrap (((j : Int) + 1) * 16) = ((j : Int) + 1) * 16 := wrap_in (by omega) (by omega)
          simp only [w5, w6, w7, w8, c1, Qs, q_exLQ_eq_21, q_exLQ_eq_34, q_exLQ_eq_37, q_vInts_eq_1, q_vInts_eq_2, q_foldV_eq_1, q_vMinmax_eq_1, q_minmaxI_eq_1, if_true, if_false, Nat.reduceAdd, Nat.reduceBEq, vv f39r13.eq_1, vv f39r14o0.eq_1, vv f39r14o1.eq_1, vv f39r14o2.eq_1, vv f39r14o3.eq_1, vv f39r14o4.eq_1, vv f39r14o5.eq_1, vv f39r14o6.eq_1, vv f39r14o7.eq_1, vv f39r14o8.eq_1, vv f39r14o9.eq_1, vv f39r14o10.eq_1, vv f39r14o11.eq_1, vv f39r14o12.eq_1, vv f39r14o13.eq_1, vv f39r14o14.eq_1, vv f39r14o15.eq_1, vv f39r14o16.eq_1, vv f39r14o17.eq_1, utf39r14, uu f39b15.eq_1, uu f39b16.eq_1, uu f39b17.eq_1, vv f39r18.eq_1, uu f39b19.eq_1, uu f39b20.eq_1]
          obtain ⟨k, rfl⟩ : ∃ k', k = k' + 1 := ⟨k - 1, by omega⟩
          rw [putJ, if_pos hlt] at g7
          have hch : ((all.drop (16 * j)).take 16).length ≤ 16 := by rw [List.length_take]; omega
          rw [chunk_is hlt]
          generalize (all.drop (16 * j)).take 16 = ch at g7 hch ⊢
          have hw := writeD_ok (d := ⟨secs2, pend2, left2, false⟩) (i := 2 + (j : Int)) (s := ch) rfl (by omega) (by show 2 + (j : Int) < secs2.length; omega) hch (by show pend2.length < 512; omega)
          have hp := right_push (i := 2 + (j : Int)) (t := pad ch) g1 (by omega) (by omega) (pad_len hch) (by omega)
          rw [hw] at g7
          refine ⟨⟨by omega, by split <;> omega, by split <;> omega⟩, callQ_R (b28 _ g1 (2 + (j : Int)) ch) ?_ rfl (by simp [lendL, V.norm, C.normRow, dV, encD, norm_list, norm_lst, normRows_strs, normRows_wrs]) rfl⟩
          rw [hw]
          simp only [resD, dV, encD, normRows_strs, normRows_wrs, w7, Qs, q_exLQ_eq_28, q_V_fz_eq_2, q_V_fz_eq_4, q_V_fzL_eq_1, q_V_fzL_eq_2, if_true, List.append_nil, Nat.reduceAdd, Nat.reduceBEq]
          exact Next.intro (j + 1, ⟨secs2, pend2 ++ [⟨2 + (j : Int), pad ch⟩], left2, false⟩) rfl rfl ⟨hp, rfl, g3, by show (pend2 ++ [_]).length ≤ j + 1; rw [List.length_append, List.length_singleton]; omega, by show j + 1 ≤ 512 + all.length; omega, k, by show all.length ≤ 16 * (j + 1 + k); omega, g7⟩ (by show all.length + 1 - (j + 1) < all.length + 1 - j; omega)
        · have c1 : ¬ (j : Int) * 16 < all.length := by omega
          have g8 : putJ all k j ⟨secs2, pend2, left2, false⟩ = ⟨secs2, pend2, left2, false⟩ := by
            cases k with
            | zero => rfl
            | succ k => rw [putJ, if_neg hlt]
          rw [g8] at g7
          rw [← g7] at hS
          have c29 := b29 _ g1
          simp only [dV, encD] at c29
          simp only [w5, c1, normRows_strs, normRows_wrs, Qs, if_true, Nat.reduceAdd, Nat.reduceBEq, vv f39r11.eq_1, uu f39b12.eq_1, uu f39b17.eq_1, vv f39r18.eq_1, uu f39b19.eq_1, uu f39b20.eq_1]
          refine call_r c29 ?_
          obtain ⟨hRf, hzf⟩ := right_flush g1 rfl
          generalize flushD ⟨secs2, pend2, left2, false⟩ = x at hS hRf hzf ⊢
          obtain ⟨⟨s3, p3, l3, d3⟩, e3⟩ := x
          simp only [] at hS hRf hzf
          by_cases hz : e3 = 0
          · subst hz
            obtain ⟨z1, z2, z3⟩ := hzf rfl
            subst z1 z2
            rw [if_neg (by simp)] at hS
            have w9 : IntKind.i64.wrap (1 - xc) = 1 - xc := wrap_in (by omega) (by omega)
            have hhl := hdr_len all.length
            have hw := writeD_ok (d := ⟨s3, [], l3, false⟩) (i := 1 - xc) (s := hdr all.length) rfl (by omega) (by show 1 - xc < s3.length; omega) (by omega) (by simp)
            have hp := right_push (i := 1 - xc) (t := pad (hdr all.length)) hRf (by omega) (by omega) (pad_len (by omega)) (by simp)
            rw [hw] at hS
            simp only [resD, dV, encD, normRows_strs, normRows_wrs, w9, Qs, q_exLQ_eq_34, if_true, if_false, List.append_nil, Nat.reduceAdd, Nat.reduceMul, Nat.reduceBEq, Int.reduceBNe, vv f39r3o0.eq_1, vv f39r3o1.eq_1, vv f39r3o2.eq_1, vv f39r3o3.eq_1, vv f39r3o4.eq_1, vv f39r3o5.eq_1, vv f39r3o6.eq_1, vv f39r3o7.eq_1, vv f39r3o8.eq_1, vv f39r3o9.eq_1, vv f39r3o10.eq_1, vv f39r3o11.eq_1, utf39r3, uu f39b4.eq_1, uu f39b7.eq_1, vv f39r8.eq_1, uu f39b9.eq_1, uu f39b10.eq_1]
            refine ⟨rfl, _, s30 all.length (by omega), .inl rfl, ?_⟩
            simp only [normRows_strs, normRows_wrs, w9, Qs, Nat.reduceBEq]
            refine callQ_R (b28 _ hRf (1 - xc) (hdr all.length)) ?_ rfl (by simp [lendL, V.norm, C.normRow, dV, encD, norm_list, norm_lst, normRows_strs, normRows_wrs]) rfl
            rw [hw]
            have c29' := b29 _ hp
            simp only [dV, encD] at c29'
            simp only [resD, dV, encD, normRows_strs, normRows_wrs, w9, Qs, q_exLQ_eq_28, q_V_fz_eq_2, q_V_fz_eq_4, q_V_fzL_eq_1, q_V_fzL_eq_2, if_true, List.append_nil, Nat.reduceAdd, Nat.reduceBEq, vv f39r1.eq_1, uu f39b2.eq_1]
            refine call_r c29' ?_
            simp only [List.nil_append] at hS ⊢
            generalize flushD ⟨s3, [⟨1 - xc, pad (hdr all.length)⟩], l3, false⟩ = y at hS ⊢
            obtain ⟨⟨s4, p4, l4, d4⟩, e4⟩ := y
            simp only [resD, dV, encD, normRows_strs, normRows_wrs, Qs, if_true, List.append_nil, List.nodup_nil, Nat.reduceAdd, Nat.reduceMul, Nat.reduceLT, Nat.reduceBEq]
            exact fin_T hS (norm_s _) (norm_w _) rfl
          · rw [if_pos hz] at hS
            simp only [resD, dV, encD, hz, normRows_strs, normRows_wrs, Qs, q_exLQ_eq_34, if_true, if_false, forall_const, List.append_nil, List.nodup_nil, Nat.reduceAdd, Nat.reduceMul, Nat.reduceLT, Nat.reduceBEq, vv f39r3o0.eq_1, vv f39r3o1.eq_1, vv f39r3o2.eq_1, vv f39r3o3.eq_1, vv f39r3o4.eq_1, vv f39r3o5.eq_1, vv f39r3o6.eq_1, vv f39r3o7.eq_1, vv f39r3o8.eq_1, vv f39r3o9.eq_1, vv f39r3o10.eq_1, vv f39r3o11.eq_1, utf39r3, uu f39b4.eq_1, vv f39r5.eq_1, uu f39b6.eq_1, uu f39b7.eq_1, vv f39r8.eq_1, uu f39b9.eq_1, uu f39b10.eq_1]
            exact fin_T hS (norm_s _) (norm_w _) rfl
  · rw [if_pos he] at hS
    simp only [he, normRows_strs, normRows_wrs, Qs, forall_const]
    exact fin_T hS (secs := []) (pend := []) rfl rfl rfl
end Go.Abs


set_option maxRecDepth 100000
set_option maxHeartbeats 4000000
namespace Go.Abs
open Go.Proofs Go.Wire Go.RowKit Go.Jr
theorem right_down {secs : List Txt} (h : Right ⟨secs, [], -1, false⟩) : Right ⟨secs, [], -1, true⟩ := ⟨h.lo, h.hi, h.pe, h.l0, h.l1, fun _ => ⟨rfl, rfl⟩, h.se, h.wr⟩
theorem armed {d : Disk} {l : List Txt} {c : Nat} (h : Jr.Inv d l c) {k : Int} (h0 : 0 ≤ k) (h1 : k ≤ 512) : Jr.Inv ⟨d.secs, d.pend, k, d.down⟩ l c :=
  ⟨⟨h.right.lo, h.right.hi, h.right.pe, by show -1 ≤ k; omega, h1, fun e => absurd (h.up.symm.trans e) (by simp), h.right.se, h.right.wr⟩, h.up, h.pe, h.n3, h.len, h.each, h.fit, h.holds, h.c01, h.hd, h.ot⟩
theorem right_new {n : Nat} (h0 : 1 ≤ n) (h : n ≤ 512) : Right (newD n) := by
  refine ⟨by simp [newD]; omega, by simp [newD]; omega, by simp [newD], by simp [newD], by simp [newD], fun e => absurd e (by simp [newD]), ?_, fun w hw => absurd hw (by simp [newD])⟩
  intro s hs
  rw [(List.mem_replicate.1 hs).2]
  rfl
end Go.Abs


set_option maxRecDepth 100000
set_option maxHeartbeats 4000000
namespace Go.Abs
open Go.Proofs Go.Wire
theorem dstr {d : Nat} (h : d < 10) : List.drop d (48 :: List.take d [49, 50, 51, 52, 53, 54, 55, 56, 57]) = ([UInt8.ofNat (48 + d)] : Txt) := by
  match d, h with
  | 0, _ => rfl
  | 1, _ => rfl
  | 2, _ => rfl
  | 3, _ => rfl
  | 4, _ => rfl
  | 5, _ => rfl
  | 6, _ => rfl
  | 7, _ => rfl
  | 8, _ => rfl
  | 9, _ => rfl
theorem dec_step (u : Nat) (out : Txt) : Go.Lib.decDigits u ++ out = if u / 10 = 0 then UInt8.ofNat (48 + u % 10) :: out else Go.Lib.decDigits (u / 10) ++ UInt8.ofNat (48 + u % 10) :: out := by
  by_cases h : u < 10
  · rw [dec_small h, if_pos (by omega), Nat.mod_eq_of_lt h]; rfl
  · rw [if_neg (by omega), dec_big h, List.append_assoc]; rfl
theorem w10 (n : Int) (hn : inI n) : Spec Tryz.prog 92 [.int .i64 n] (fun r => r = .str (wI n)) := by
  refine Spec.of_awlS hf92 okf92 (by simp) fun S hS => ?_
  simp only [Qs, Nat.reduceBEq, uu f92.eq_1, uu f92b26.eq_1, vv f92r27.eq_1, uu f92b28.eq_1, uu f92b29.eq_1, vv f92r30.eq_1, uu f92b31.eq_1, vv f92r32.eq_1, uu f92b33.eq_1, vv f92r34.eq_1, uu f92b35.eq_1]
  rw [uf92l25]
  refine awl_loop (fun x : Nat × Int × Txt => [(0, .int .i64 n), (3, .str x.2.2), (4, .int .i64 x.2.1), (5, .int .i64 x.1)]) (fun _ => [])
    (fun x => inI x.2.1 ∧ x.2.1.natAbs * 10 ^ x.1 ≤ n.natAbs ∧ x.2.2.length = x.1 + 1 ∧ (if x.1 = 0 then x.2.1 = n ∧ x.2.2 = [59] else Go.Lib.decDigits n.natAbs ++ [59] = if x.2.1.natAbs = 0 then x.2.2 else Go.Lib.decDigits x.2.1.natAbs ++ x.2.2))
    (fun x => x.2.1.natAbs + if x.1 = 0 then 1 else 0) (0, n, [59]) rfl rfl ⟨hn, by simp, rfl, by simp⟩ ?_
  rintro ⟨i, m, out⟩ ⟨hm, hp, hl, hj⟩
  simp only [] at hm hp hl hj
  have h1 := hn.1
  have h2 := hn.2
  by_cases hgo : i = 0 ∨ m ≠ 0
  · have hi18 : i ≤ 18 := by
      rcases hgo with h | h
      · omega
      · by_cases h19 : 19 ≤ i
        · have h3 : 10 ^ 19 ≤ 10 ^ i := Nat.pow_le_pow_right (by omega) h19
          have h4 : 1 * 10 ^ i ≤ m.natAbs * 10 ^ i := Nat.mul_le_mul_right _ (by omega)
          omega
        · omega
    have hj2 : Go.Lib.decDigits n.natAbs ++ [59] = Go.Lib.decDigits m.natAbs ++ out := by
      by_cases h0 : i = 0
      · rw [if_pos h0] at hj; rw [hj.1, hj.2]
      · rw [if_neg h0, if_neg (by omega)] at hj; exact hj
    rw [dec_step m.natAbs out] at hj2
    have c4 : IntKind.i64.wrap ((i : Int) + 1) = (i : Int) + 1 := wrap_in (by omega) (by omega)
    have hd : m.natAbs % 10 < 10 := by omega
    have e2 : (m.tdiv 10).natAbs = m.natAbs / 10 := by rw [Int.natAbs_tdiv]; rfl
    have hmb := hm
    unfold inI at hmb
    have e3 : IntKind.i64.wrap (m.tdiv 10) = m.tdiv 10 := wrap_in (by omega) (by omega)
    have hnext : ∀ q : Txt, q = UInt8.ofNat (48 + m.natAbs % 10) :: out → inI (m.tdiv 10) ∧ (m.tdiv 10).natAbs * 10 ^ (i + 1) ≤ n.natAbs ∧ q.length = i + 1 + 1 ∧ (if i + 1 = 0 then m.tdiv 10 = n ∧ q = [59] else Go.Lib.decDigits n.natAbs ++ [59] = if (m.tdiv 10).natAbs = 0 then q else Go.Lib.decDigits (m.tdiv 10).natAbs ++ q) := by
      rintro q rfl
      refine ⟨⟨by omega, by omega⟩, ?_, by simp [hl], ?_⟩
      · rw [e2, Nat.pow_succ, Nat.mul_comm (10 ^ i) 10, ← Nat.mul_assoc]
        exact Nat.le_trans (Nat.mul_le_mul_right _ (by omega)) hp
      · rw [if_neg (by omega), e2]; exact hj2
    have hmes : (m.tdiv 10).natAbs + (if i + 1 = 0 then 1 else 0) < m.natAbs + if i = 0 then 1 else 0 := by
      rw [if_neg (by omega), e2]
      by_cases h0 : i = 0
      · rw [if_pos h0]; omega
      · rw [if_neg h0]; omega
    generalize hdd : m.natAbs % 10 = d at hd hj2 hnext
    have hds := dstr hd
    have c7 : IntKind.i64.wrap ((d : Int) + 1) = ((d + 1 : Nat) : Int) := by rw [wrap_in (by omega) (by omega)]; rfl
    have b1 : (d : Int) ≤ ((d + 1 : Nat) : Int) := by omega
    have b2 : ((d + 1 : Nat) : Int) ≤ 10 := by omega
    have b3 : 1 + out.length ≤ 9223372036854775807 := by omega
    have l1 : ([UInt8.ofNat (48 + d)] : Txt).length = 1 := rfl
    by_cases hq : m.tmod 10 < 0
    · have e1 : m.tmod 10 = -(d : Int) := by
        have := Int.natAbs_tmod m 10
        simp only [Int.reduceAbs] at this
        omega
      have c5 : -(d : Int) < 0 := by omega
      have c6 : IntKind.i64.wrap (0 - -(d : Int)) = d := by rw [show (0 : Int) - -(d : Int) = d by omega]; exact wrap_in (by omega) (by omega)
      by_cases hi0 : i = 0
      · have cgo : ((i : Int) == 0) = true := by simp [hi0]
        simp only [cgo, c4, e1, c5, c6, c7, e3, hds, b1, b2, b3, l1, Qs, q_cutInt_eq_4, q_cutInt_eq_5, q_unV_eq_1, if_true, ne_eq, Nat.reduceAdd, Nat.reduceBEq, Int.reduceEq, vv f92r8.eq_1, vv f92r9.eq_1, vv f92r10.eq_1, uu f92b11.eq_1, vv f92r12.eq_1, uu f92b13.eq_1, vv f92r14.eq_1, uu f92b15.eq_1, uu f92b16.eq_1, vv f92r17.eq_1, uu f92b18.eq_1, uu f92b19.eq_1, uu f92b20.eq_1, uu f92b21.eq_1, vv f92r22.eq_1, uu f92b23.eq_1, uu f92b24.eq_1]
        exact Next.intro (i + 1, m.tdiv 10, UInt8.ofNat (48 + d) :: out) rfl rfl (hnext _ rfl) hmes
      · have cgo : ((i : Int) == 0) = false := by simp [hi0]
        have cm : (m != 0) = true := by have := hgo.resolve_left hi0; simp [this]
        simp only [cgo, cm, c4, e1, c5, c6, c7, e3, hds, b1, b2, b3, l1, Qs, q_cutInt_eq_4, q_cutInt_eq_5, q_unV_eq_1, if_true, if_false, ne_eq, Nat.reduceAdd, Nat.reduceBEq, Int.reduceEq, vv f92r8.eq_1, vv f92r9.eq_1, vv f92r10.eq_1, uu f92b11.eq_1, vv f92r12.eq_1, uu f92b13.eq_1, vv f92r14.eq_1, uu f92b15.eq_1, uu f92b16.eq_1, vv f92r17.eq_1, uu f92b18.eq_1, uu f92b19.eq_1, uu f92b20.eq_1, uu f92b21.eq_1, vv f92r22.eq_1, uu f92b23.eq_1, uu f92b24.eq_1]
        exact Next.intro (i + 1, m.tdiv 10, UInt8.ofNat (48 + d) :: out) rfl rfl (hnext _ rfl) hmes
    · have e1 : m.tmod 10 = (d : Int) := by
        have := Int.natAbs_tmod m 10
        simp only [Int.reduceAbs] at this
        omega
      have c5 : ¬ (d : Int) < 0 := by omega
      by_cases hi0 : i = 0
      · have cgo : ((i : Int) == 0) = true := by simp [hi0]
        simp only [cgo, c4, e1, c5, c7, e3, hds, b1, b2, b3, l1, Qs, q_cutInt_eq_4, q_cutInt_eq_5, if_true, ne_eq, Nat.reduceAdd, Nat.reduceBEq, Int.reduceEq, vv f92r8.eq_1, vv f92r9.eq_1, vv f92r10.eq_1, uu f92b11.eq_1, vv f92r12.eq_1, uu f92b13.eq_1, vv f92r14.eq_1, uu f92b15.eq_1, uu f92b16.eq_1, vv f92r17.eq_1, uu f92b18.eq_1, uu f92b19.eq_1, uu f92b20.eq_1, uu f92b21.eq_1, vv f92r22.eq_1, uu f92b23.eq_1, uu f92b24.eq_1]
        exact Next.intro (i + 1, m.tdiv 10, UInt8.ofNat (48 + d) :: out) rfl rfl (hnext _ rfl) hmes
      · have cgo : ((i : Int) == 0) = false := by simp [hi0]
        have cm : (m != 0) = true := by have := hgo.resolve_left hi0; simp [this]
        simp only [cgo, cm, c4, e1, c5, c7, e3, hds, b1, b2, b3, l1, Qs, q_cutInt_eq_4, q_cutInt_eq_5, if_true, if_false, ne_eq, Nat.reduceAdd, Nat.reduceBEq, Int.reduceEq, vv f92r8.eq_1, vv f92r9.eq_1, vv f92r10.eq_1, uu f92b11.eq_1, vv f92r12.eq_1, uu f92b13.eq_1, vv f92r14.eq_1, uu f92b15.eq_1, uu f92b16.eq_1, vv f92r17.eq_1, uu f92b18.eq_1, uu f92b19.eq_1, uu f92b20.eq_1, uu f92b21.eq_1, vv f92r22.eq_1, uu f92b23.eq_1, uu f92b24.eq_1]
        exact Next.intro (i + 1, m.tdiv 10, UInt8.ofNat (48 + d) :: out) rfl rfl (hnext _ rfl) hmes
  · have hi0 : ¬ i = 0 := fun h => hgo (.inl h)
    have hm0 : m = 0 := Decidable.byContradiction fun h => hgo (.inr h)
    subst hm0
    rw [if_neg hi0, if_pos (by simp)] at hj
    have cgo : ((i : Int) == 0) = false := by simp [hi0]
    have hp0 : i ≤ 100 ∨ 100 < i := by omega
    have hol : out.length ≤ 1000 := by
      rw [← hj, List.length_append]
      have := dec_len 18 n.natAbs (by omega)
      simp only [List.length_singleton]; omega
    have b3 : 1 + out.length ≤ 9223372036854775807 := by omega
    have l1 : ([45] : Txt).length = 1 := rfl
    by_cases hn0 : n < 0
    · simp only [cgo, hn0, b3, l1, Qs, if_true, if_false, List.nodup_nil, Nat.reduceBEq, Int.reduceBNe, vv f92r1.eq_1, uu f92b2.eq_1, vv f92r3.eq_1, uu f92b4.eq_1, vv f92r5.eq_1, uu f92b6.eq_1, uu f92b7.eq_1, uu f92b21.eq_1, vv f92r22.eq_1, uu f92b23.eq_1, uu f92b24.eq_1]
      refine fin hS ?_
      rw [wI, Go.Lib.itoa, if_pos hn0, ← hj]; rfl
    · simp only [cgo, hn0, Qs, if_true, if_false, List.nodup_nil, Nat.reduceBEq, Int.reduceBNe, vv f92r1.eq_1, uu f92b2.eq_1, vv f92r3.eq_1, uu f92b4.eq_1, vv f92r5.eq_1, uu f92b6.eq_1, uu f92b7.eq_1, uu f92b21.eq_1, vv f92r22.eq_1, uu f92b23.eq_1, uu f92b24.eq_1]
      refine fin hS ?_
      rw [wI, Go.Lib.itoa, if_neg hn0, ← hj, show n.natAbs = n.toNat by omega]
theorem w12 (s : Txt) (hs : s.length ≤ 1000000000000) : Spec Tryz.prog 70 [.str s] (fun r => r = .str (wS s)) := by
  have h0 : inI (s.length : Int) := ⟨by omega, by omega⟩
  have h1 := wI_le h0
  refine Spec.of_awlS hf70 okf70 (by simp) fun S hS => ?_
  simp only [Qs, Nat.reduceBEq, uu f70.eq_1, vv f70r1.eq_1, uu f70b2.eq_1, vv f70r3.eq_1, uu f70b4.eq_1]
  refine call_s (w10 s.length h0) ?_
  have c : (wI s.length).length + s.length ≤ 9223372036854775807 := by omega
  simp only [c, Qs, List.nodup_nil, Nat.reduceBEq]
  exact hS
end Go.Abs


set_option maxRecDepth 100000
set_option maxHeartbeats 4000000
namespace Go.Abs
open Go.Proofs Go.Wire Go.RowKit Go.Jr
theorem z39 (d : Disk) (h : Right d) (n : Nat) (hn : n ≤ d.pend.length) : Spec Tryz.prog 87 [dV d, .int .i64 n] (fun r => r = .k (.newl 9 1 none (strs (perf d.secs (d.pend.take n))))) := by
  refine Spec.of_awlS hf87 okf87 (by simp) fun S hS => ?_
  have hwr := h.wr
  have hhi := h.hi
  have hpe := h.pe
  obtain ⟨secs, pend, left, down⟩ := d
  simp only [dV, encD] at *
  simp only [normRows_strs, normRows_wrs, Qs, implies_true, bne_iff_ne, ne_eq, Nat.reduceAdd, Nat.reduceEqDiff, Nat.reduceBEq, List.not_mem_nil, implies_true, uu f87.eq_1, uu f87b25.eq_1, vv f87r26.eq_1, uu f87b27.eq_1, uu f87b28.eq_1, vv f87r29.eq_1, uu f87b30.eq_1, vv f87r31.eq_1, uu f87b32.eq_1]
  rw [uf87l24]
  refine awl_loop (fun i : Nat => [(1, .int .i64 n), (2, .k (.ptr 2 0)), (5, .k (.own 8)), (6, .int .i64 i)])
    (fun i => [(2, objC secs pend left down), (8, .arr 9 1 (some false) (strs (secs.take i)))])
    (fun i => i ≤ secs.length) (fun i => secs.length - i) 0 rfl rfl (Nat.zero_le _) ?_
  intro i hi
  by_cases hlt : i < secs.length
  · have c1 : (i : Int) < secs.length := by omega
    have c4 : IntKind.i64.wrap ((i : Int) + 1) = (i : Int) + 1 := wrap_in (by omega) (by omega)
    have e2 : secs.take (i + 1) = secs.take i ++ [secs[i]] := by rw [List.take_add_one, List.getElem?_eq_getElem hlt]; rfl
    have e3 : (secs.take i).length = i := by rw [List.length_take]; omega
    simp only [c1, c4, e3, strs_len, strs_at hlt, strs_snoc, Qs, q_K_scrub_eq_2, q_O_scrub_eq_1, if_true, if_false, forall_eq, bne_iff_ne, ne_eq, List.mem_cons, Nat.reduceAdd, Nat.reduceEqDiff, Nat.reduceLeDiff, Nat.reduceLT, Nat.reduceBEq, List.not_mem_nil, vv f87r16.eq_1, vv f87r17.eq_1, uu f87b18.eq_1, uu f87b19.eq_1, uu f87b20.eq_1, vv f87r21.eq_1, uu f87b22.eq_1, uu f87b23.eq_1]
    exact ⟨by omega, by omega, Next.intro (i + 1) rfl (by rw [← e2]; rfl) (by omega) (by omega)⟩
  · obtain rfl : i = secs.length := by omega
    have c1 : ¬ (secs.length : Int) < secs.length := by omega
    simp only [c1, strs_len, List.take_length, Qs, if_true, if_false, Nat.reduceAdd, Nat.reduceLeDiff, Nat.reduceBEq, uu f87b12.eq_1, vv f87r13.eq_1, uu f87b14.eq_1, uu f87b15.eq_1, uu f87b20.eq_1, vv f87r21.eq_1, uu f87b22.eq_1, uu f87b23.eq_1]
    rw [uf87l11]
    refine awl_loop (fun j : Nat => [(1, .int .i64 n), (2, .k (.ptr 2 0)), (5, .k (.own 8)), (7, .int .i64 j)])
      (fun j => [(2, objC secs pend left down), (8, .arr 9 1 (some false) (strs (perf secs (pend.take j))))])
      (fun j => j ≤ n) (fun j => n - j) 0 rfl rfl (Nat.zero_le _) ?_
    intro j hj
    by_cases hlt2 : j < n
    · have hjp : j < pend.length := by omega
      have d1 : (j : Int) < n := by omega
      have d2 : (j : Int) < pend.length := by omega
      have d4 : IntKind.i64.wrap ((j : Int) + 1) = (j : Int) + 1 := wrap_in (by omega) (by omega)
      obtain ⟨w0, w1, w2⟩ := hwr _ (List.getElem_mem hjp)
      obtain ⟨q, hq⟩ : ∃ q : Nat, pend[j].pos = q := ⟨pend[j].pos.toNat, by omega⟩
      have e1 := wrs_at hjp
      have e3 := perf_len (pend.take j) secs
      have e2 : (strs (perf secs (List.take j pend))).set q [C.str pend[j].text] = strs (perf secs (List.take (j + 1) pend)) := by
        rw [strs_set, perf_take hjp, hq, Int.toNat_natCast]
      simp only [d1, d2, d4, e1, e2, e3, hq, strs_len, wrs_len, normRows_strs, normRows_wrs, Qs, q_vFaddr_eq_3, q_stArrK_eq_1, q_storeK_eq_2, q_List_getD_cons_succ, if_true, if_false, Nat.reduceAdd, Nat.reduceLeDiff, Nat.reduceBEq, vv f87r3.eq_1, vv f87r4.eq_1, uu f87b5.eq_1, uu f87b6.eq_1, uu f87b7.eq_1, vv f87r8.eq_1, uu f87b9.eq_1, uu f87b10.eq_1]
      exact ⟨by omega, Next.intro (j + 1) rfl rfl (by omega) (by omega)⟩
    · obtain rfl : j = n := by omega
      have d1 : ¬ (j : Int) < j := by omega
      simp only [d1, strs_len, normRows_strs, Qs, if_true, List.nodup_nil, List.nodup_cons, Nat.reduceBEq, List.not_mem_nil, vv f87r1.eq_1, uu f87b2.eq_1, uu f87b7.eq_1, vv f87r8.eq_1, uu f87b9.eq_1, uu f87b10.eq_1]
      exact hS
theorem z24 (d : Disk) (h : Right d) : Spec Tryz.prog 65 [dV d] (fun r => r = resD (flushD d)) := by
  refine Spec.of_awlP hf65 okf65 (by simp) fun S hS => ?_
  have c38 := r38 d h
  have hpe := h.pe
  have hwr := h.wr
  have hse := h.se
  have hL0 := h.l0
  have hL1 := h.l1
  have cS := z39 d h
  obtain ⟨secs, pend, left, down⟩ := d
  unfold flushD at hS
  simp only [dV, encD] at *
  simp only [normRows_strs, normRows_wrs, Qs, if_true, bne_iff_ne, ne_eq, Nat.reduceAdd, Nat.reduceEqDiff, Nat.reduceBEq, uu f65.eq_1, vv f65r30.eq_1, uu f65b31.eq_1, vv f65r32.eq_1, uu f65b33.eq_1]
  refine call_s c38 ?_
  cases down
  · rw [if_neg (by simp)] at hS
    by_cases h0 : left ≥ 0
    · by_cases h1 : left < pend.length
      · rw [if_pos ⟨h0, h1⟩] at hS
        obtain ⟨k, rfl⟩ : ∃ k : Nat, left = k := ⟨left.toNat, by omega⟩
        simp only [h0, h1, wrs_len, normRows_strs, normRows_wrs, Qs, if_true, if_false, Nat.reduceAdd, Nat.reduceLeDiff, Nat.reduceBEq, Int.reduceBNe, vv f65r16.eq_1, uu f65b17.eq_1, uu f65b18.eq_1, vv f65r19.eq_1, uu f65b20.eq_1, uu f65b21.eq_1, vv f65r22.eq_1, uu f65b23.eq_1, uu f65b26.eq_1, vv f65r27.eq_1, uu f65b28.eq_1, uu f65b29.eq_1]
        have hkp : k < pend.length := by omega
        refine call_l (cS k (by omega)) ?_
        have e1 := wrs_at hkp
        obtain ⟨w0, w1, w2⟩ := hwr _ (List.getElem_mem hkp)
        obtain ⟨q, hq⟩ : ∃ q : Nat, pend[k].pos = q := ⟨pend[k].pos.toNat, by omega⟩
        have hpl := perf_len (pend.take k) secs
        have hq1 : q < (perf secs (pend.take k)).length := by omega
        have hq2 : (q : Int) < (perf secs (pend.take k)).length := by omega
        have e3 := strs_at hq1
        have hps : ((perf secs (pend.take k))[q]'hq1).length = 16 := perf_se (pend.take k) secs hse (fun w hw => (hwr w (List.mem_of_mem_take hw)).2.2) _ (List.getElem_mem _)
        have hk2 : (k : Int) < pend.length := by omega
        have e4 : (strs (perf secs (pend.take k))).set q [C.str (pend[k].text.take 8 ++ ((perf secs (pend.take k))[q]'hq1).drop 8)] = strs ((perf secs (pend.take k)).set q (pend[k].text.take 8 ++ ((perf secs (pend.take k))[q]'hq1).drop 8)) := strs_set _ _ _
        have c36 : List.take ((perf secs (pend.take k))[q]'hq1).length ((perf secs (pend.take k))[q]'hq1) = ((perf secs (pend.take k))[q]'hq1) := List.take_length
        simp only [h0, h1, e1, hq, hq2, e3, e4, c36, hk2, strs_len, wrs_len, normRows_strs, normRows_wrs, Qs, q_exLQ_eq_21, q_partV_eq_1, q_vBuild_eq_2, q_stArrK_eq_1, q_storeK_eq_2, if_true, if_false, bne_iff_ne, ne_eq, Int.reduceNeg, List.append_nil, List.nodup_nil, List.nodup_cons, Nat.reduceAdd, Nat.reduceEqDiff, Nat.reduceLeDiff, Nat.reduceLT, Nat.reduceBEq, Int.reduceLE, Int.reduceToNat, List.not_mem_nil, vv f65r10.eq_1, uu f65b11.eq_1, vv f65r12.eq_1, uu f65b13.eq_1, vv f65r14.eq_1, uu f65b15.eq_1]
        rw [Int.toNat_natCast, List.getD_eq_getElem?_getD, List.getElem?_eq_getElem hkp, Option.getD_some, hq, Int.toNat_natCast, List.getD_eq_getElem?_getD, List.getElem?_eq_getElem hq1, Option.getD_some] at hS
        refine ⟨by omega, ⟨by omega, Int.le_refl _⟩, by simp only [List.length_take, List.length_drop, hps, w2]; decide, ?_⟩
        exact fin_K hS rfl rfl (norm_s' _ _) (norm_w []) rfl
      · rw [if_neg (by omega), if_pos h0] at hS
        simp only [h0, h1, wrs_len, normRows_strs, normRows_wrs, Qs, if_true, if_false, Int.reduceNeg, Nat.reduceAdd, Nat.reduceLeDiff, Nat.reduceBEq, Int.reduceBNe, vv f65r8.eq_1, uu f65b9.eq_1, uu f65b18.eq_1, vv f65r19.eq_1, uu f65b20.eq_1, uu f65b21.eq_1, vv f65r22.eq_1, uu f65b23.eq_1, uu f65b26.eq_1, vv f65r27.eq_1, uu f65b28.eq_1, uu f65b29.eq_1]
        refine call_l (cS pend.length (Nat.le_refl _)) ?_
        have w1 : IntKind.i64.wrap (left - (pend.length : Int)) = left - pend.length := wrap_in (by omega) (by omega)
        simp only [h0, w1, List.take_length, strs_len, wrs_len, normRows_strs, normRows_wrs, Qs, q_vBuild_eq_2, q_V_noRef_eq_3, if_true, if_false, bne_iff_ne, ne_eq, Int.reduceNeg, List.append_nil, List.nodup_nil, List.nodup_cons, Nat.reduceAdd, Nat.reduceEqDiff, Nat.reduceLeDiff, Nat.reduceLT, Nat.reduceBEq, List.not_mem_nil, vv f65r1.eq_1, uu f65b2.eq_1, vv f65r3.eq_1, uu f65b4.eq_1, vv f65r5.eq_1, uu f65b6.eq_1, uu f65b7.eq_1]
        exact fin_K hS rfl rfl (norm_s' _ _) (norm_w []) rfl
    · rw [if_neg (by omega), if_neg h0] at hS
      simp only [h0, wrs_len, normRows_strs, normRows_wrs, Qs, if_true, if_false, Int.reduceNeg, Nat.reduceAdd, Nat.reduceLeDiff, Nat.reduceBEq, Int.reduceBNe, vv f65r8.eq_1, uu f65b9.eq_1, uu f65b18.eq_1, vv f65r19.eq_1, uu f65b20.eq_1, uu f65b21.eq_1, vv f65r22.eq_1, uu f65b23.eq_1, uu f65b26.eq_1, vv f65r27.eq_1, uu f65b28.eq_1, uu f65b29.eq_1]
      refine call_l (cS pend.length (Nat.le_refl _)) ?_
      simp only [h0, List.take_length, strs_len, wrs_len, normRows_strs, normRows_wrs, Qs, q_vBuild_eq_2, q_V_noRef_eq_3, q_V_noRef_eq_5, if_true, if_false, bne_iff_ne, ne_eq, Int.reduceNeg, List.append_nil, List.nodup_nil, List.nodup_cons, Nat.reduceAdd, Nat.reduceEqDiff, Nat.reduceLeDiff, Nat.reduceLT, Nat.reduceBEq, List.not_mem_nil, vv f65r1.eq_1, uu f65b2.eq_1, vv f65r3.eq_1, uu f65b4.eq_1, vv f65r5.eq_1, uu f65b6.eq_1, uu f65b7.eq_1]
      exact fin_K hS rfl rfl (norm_s' _ _) (norm_w []) rfl
  · simp only [normRows_strs, normRows_wrs, Qs, if_true, List.append_nil, List.nodup_nil, Nat.reduceAdd, Nat.reduceLT, Nat.reduceBEq, Int.reduceBNe, vv f65r24.eq_1, uu f65b25.eq_1, uu f65b26.eq_1, vv f65r27.eq_1, uu f65b28.eq_1, uu f65b29.eq_1]
    exact fin_T hS (secs := []) (pend := []) rfl rfl rfl
end Go.Abs


set_option maxRecDepth 100000
set_option maxHeartbeats 4000000
namespace Go.Abs
open Go.Proofs Go.Wire Go.RowKit Go.Jr
theorem z22 (d : Disk) (h : Right d) : Spec Tryz.prog 43 [dV d] (fun r => r = .int .i64 (readyD d)) := by
  refine Spec.of_awlS hf43 okf43 (by simp) fun S hS => ?_
  have c34 := r39 d h
  obtain ⟨secs, pend, left, down⟩ := d
  unfold readyD at hS
  simp only [dV, encD] at *
  simp only [normRows_strs, normRows_wrs, Qs, if_true, Nat.reduceAdd, Nat.reduceBEq, uu f43.eq_1, vv f43r21.eq_1, uu f43b22.eq_1, vv f43r23.eq_1, uu f43b24.eq_1]
  refine call_s c34 ?_
  cases down
  · cases pend with
    | nil =>
      simp only [wrs_len, Qs, if_true, if_false, List.nodup_nil, Nat.reduceAdd, Nat.reduceLeDiff, Nat.reduceBEq, Int.reduceGT, Int.reduceBNe, vv f43r1.eq_1, uu f43b2.eq_1, uu f43b5.eq_1, vv f43r6.eq_1, uu f43b7.eq_1, uu f43b8.eq_1, uu f43b11.eq_1, vv f43r12.eq_1, uu f43b13.eq_1, uu f43b14.eq_1, uu f43b17.eq_1, vv f43r18.eq_1, uu f43b19.eq_1, uu f43b20.eq_1]
      exact hS
    | cons a l =>
      have c1 : ((a :: l).length : Int) > 0 := by rw [List.length_cons]; omega
      simp only [wrs_len, Qs, if_true, if_false, List.nodup_nil, Nat.reduceAdd, Nat.reduceLeDiff, Nat.reduceBEq, Int.reduceBNe, vv f43r1.eq_1, uu f43b2.eq_1, vv f43r3.eq_1, uu f43b4.eq_1, uu f43b5.eq_1, vv f43r6.eq_1, uu f43b7.eq_1, uu f43b8.eq_1, uu f43b11.eq_1, vv f43r12.eq_1, uu f43b13.eq_1, uu f43b14.eq_1, uu f43b17.eq_1, vv f43r18.eq_1, uu f43b19.eq_1, uu f43b20.eq_1]
      exact ⟨fun _ => hS, fun g => absurd (by omega) g⟩
  · simp only [Qs, if_true, if_false, List.nodup_nil, Nat.reduceAdd, Nat.reduceBEq, Int.reduceBNe, vv f43r9.eq_1, uu f43b10.eq_1, uu f43b11.eq_1, vv f43r12.eq_1, uu f43b13.eq_1, uu f43b14.eq_1, uu f43b17.eq_1, vv f43r18.eq_1, uu f43b19.eq_1, uu f43b20.eq_1]
    exact hS
theorem z25 (l : List Txt) (h : ∀ s ∈ l, s.length ≤ 2000) (h2 : (wN wS l).length ≤ 1000000000) : Spec Tryz.prog 69 [lst 1 (strs l)] (fun r => r = .int .i64 ((wN wS l).length : Int)) := by
  refine Spec.of_len hf69 fun hlen => ?_
  have hl := len_lst (sz := 1) (rows := strs l) List.mem_cons_self hlen
  rw [strs_len] at hl
  clear hlen
  refine Spec.of_awlS hf69 okf69 (by simp) fun S hS => ?_
  simp only [Qs, uu f69.eq_1, uu f69b12.eq_1, vv f69r13.eq_1, uu f69b14.eq_1, uu f69b15.eq_1, vv f69r16.eq_1, uu f69b17.eq_1, vv f69r18.eq_1, uu f69b19.eq_1]
  rw [uf69l11]
  refine awl_loop (fun i : Nat => [(0, lst 1 (strs l)), (3, .int .i64 ((wN wS (l.take i)).length : Int)), (4, .int .i64 i)]) (fun _ => []) (fun i => i ≤ l.length) (fun i => l.length - i) 0 rfl rfl (Nat.zero_le _) ?_
  intro i hi
  by_cases hlt : i < l.length
  · have c1 : (i : Int) < l.length := by omega
    have c4 : IntKind.i64.wrap ((i : Int) + 1) = (i : Int) + 1 := wrap_in (by omega) (by omega)
    have hs := h _ (List.getElem_mem hlt)
    have e2 : l.take (i + 1) = l.take i ++ [l[i]] := by rw [List.take_add_one, List.getElem?_eq_getElem hlt]; rfl
    have hw := wN_app wS (l.take (i + 1)) (l.drop (i + 1))
    rw [List.take_append_drop] at hw
    have hw2 := congrArg List.length hw
    rw [List.length_append, e2, wN_app, wN_one, List.length_append] at hw2
    have c5 : IntKind.i64.wrap (((wN wS (l.take i)).length : Int) + ((wS l[i]).length : Int)) = ((wN wS (l.take (i + 1))).length : Int) := by
      rw [e2, wN_app, wN_one, List.length_append, wrap_in (by omega) (by omega)]; omega
    simp only [c1, c4, strs_len, strs_at hlt, Qs, if_true, Nat.reduceBEq, vv f69r3.eq_1, vv f69r4.eq_1, uu f69b5.eq_1, uu f69b6.eq_1, uu f69b7.eq_1, vv f69r8.eq_1, uu f69b9.eq_1, uu f69b10.eq_1]
    refine call_s (w12 l[i] (by omega)) ?_
    simp only [c1, c4, c5, strs_len, strs_at hlt, Qs, if_true, Nat.reduceBEq]
    exact Next.intro (i + 1) rfl rfl (by omega) (by omega)
  · obtain rfl : i = l.length := by omega
    have c1 : ¬ (l.length : Int) < l.length := by omega
    simp only [c1, strs_len, List.take_length, Qs, if_true, List.nodup_nil, Nat.reduceBEq, vv f69r1.eq_1, uu f69b2.eq_1, uu f69b7.eq_1, vv f69r8.eq_1, uu f69b9.eq_1, uu f69b10.eq_1]
    exact hS
end Go.Abs


set_option maxRecDepth 100000
set_option maxHeartbeats 4000000
namespace Go.Abs
open Go.Proofs Go.Wire Go.RowKit Go.Jr
end Go.Abs


set_option maxRecDepth 100000
set_option maxHeartbeats 4000000
namespace Go.Abs
open Go.Proofs Go.Wire Go.RowKit Go.Jr
end Go.Abs


set_option maxRecDepth 100000
set_option maxHeartbeats 4000000
namespace Go.Abs
open Go.Proofs Go.Wire Go.RowKit Go.Jr
def Left (x : Disk × Int) : Prop := (x.1 = zeroD ∧ x.2 ≠ 0) ∨ Right x.1
theorem left_flush {d : Disk} (h : Right d) : Left (flushD d) := by
  by_cases h1 : d.down = true
  · left; unfold flushD; rw [if_pos h1]; exact ⟨rfl, by decide⟩
  · exact .inr (right_flush h (by simpa using h1)).1
theorem right_put (all : Txt) : ∀ (k i : Nat) (d : Disk), Right d → d.down = false → all.length ≤ 16 * (d.secs.length - 2) → d.pend.length ≤ i → Right (putJ all k i d) ∧ (putJ all k i d).down = false ∧ (putJ all k i d).secs.length = d.secs.length
  | 0, _, d, h, hu, _, _ => ⟨h, hu, rfl⟩
  | k + 1, i, d, h, hu, hl, hp => by
    rw [putJ]
    by_cases hlt : 16 * i < all.length
    · rw [if_pos hlt]
      have hhi := h.hi
      obtain ⟨secs, pend, left, down⟩ := d
      simp only [] at hu hl hp hhi
      subst hu
      have hch : ((all.drop (16 * i)).take 16).length ≤ 16 := by rw [List.length_take]; omega
      have hp2 := right_push h (i := 2 + (i : Int)) (by omega) (by omega) (pad_len hch) (by omega)
      rw [writeD_ok (d := ⟨secs, pend, left, false⟩) (i := 2 + (i : Int)) rfl (by omega) (by show 2 + (i : Int) < secs.length; omega) hch (by show pend.length < 512; omega)]
      exact right_put all k (i + 1) _ hp2 rfl hl (by show (pend ++ [_]).length ≤ i + 1; rw [List.length_append, List.length_singleton]; omega)
    · rw [if_neg hlt]; exact ⟨h, hu, rfl⟩
theorem left_append {d : Disk} (h : Right d) (s : Txt) : Left (appendJ d s) := by
  unfold appendJ
  obtain ⟨hb, hrd⟩ := read_facts d h
  by_cases he : (readJ d).2 = 0
  · rw [if_neg (by simp [he])]
    obtain ⟨hc, hdn, hpd, h2⟩ := hrd he
    by_cases h3 : s.length > 2000
    · rw [if_pos h3]; exact .inl ⟨rfl, by decide⟩
    · rw [if_neg h3]
      by_cases h4 : (readJ d).1.list.length = 500 ∨ ((readJ d).1.bytes ++ wS s).length > (d.secs.length - 2) * 16
      · rw [if_pos h4]; exact .inl ⟨rfl, by decide⟩
      · rw [if_neg h4]
        obtain ⟨hp, hpu, hps⟩ := right_put ((readJ d).1.bytes ++ wS s) ((readJ d).1.bytes ++ wS s).length ((readJ d).1.bytes.length / 16) d h hdn (by omega) (by rw [hpd]; simp)
        obtain ⟨hf, hz⟩ := right_flush hp hpu
        simp only []
        by_cases h5 : (flushD (putJ ((readJ d).1.bytes ++ wS s) ((readJ d).1.bytes ++ wS s).length ((readJ d).1.bytes.length / 16) d)).2 ≠ 0
        · rw [if_pos h5]; exact .inr hf
        · rw [if_neg h5]
          obtain ⟨z1, z2, z3⟩ := hz (by simpa using h5)
          have hhl := hdr_len ((readJ d).1.bytes ++ wS s).length
          rw [writeD_ok (s := hdr ((readJ d).1.bytes ++ wS s).length) z1 (by omega) (by omega) (by omega) (by rw [z2]; simp)]
          generalize flushD (putJ ((readJ d).1.bytes ++ wS s) ((readJ d).1.bytes ++ wS s).length ((readJ d).1.bytes.length / 16) d) = y at hf z1 z2 z3 ⊢
          obtain ⟨⟨s3, p3, l3, d3⟩, e3⟩ := y
          simp only [] at hf z1 z2 z3 ⊢
          subst z1
          exact left_flush (right_push hf (by omega) (by omega) (pad_len (by omega)) (by rw [z2]; simp))
  · rw [if_pos he]; exact .inl ⟨rfl, he⟩
theorem Left.small {x : Disk × Int} (h : Left x) : x.1.secs.length ≤ 512 ∧ x.1.pend.length ≤ 512 := by
  rcases h with ⟨h, _⟩ | h
  · rw [h]; exact ⟨by decide, by decide⟩
  · exact ⟨h.hi, h.pe⟩
theorem Left.good {x : Disk × Int} (h : Left x) (hx : x.2 = 0 ∨ x.2 = 8 ∧ x.1.secs ≠ []) : Right x.1 := by
  rcases h with ⟨h, h2⟩ | h
  · rcases hx with hx | ⟨_, hx⟩
    · exact absurd hx h2
    · rw [h] at hx; exact absurd rfl hx
  · exact h
end Go.Abs


set_option maxRecDepth 100000
set_option maxHeartbeats 4000000
namespace Go.Abs
open Go.Proofs Go.Wire Go.RowKit Go.Jr Go.Rg
def encLs (l : List Txt) : List C := [lstC 1 (strs l)]
def lls (l : List (List Txt)) : List (List C) := l.map encLs
theorem lls_len (l : List (List Txt)) : (lls l).length = l.length := by simp [lls]
theorem lls_at {l : List (List Txt)} {i : Nat} (h : i < l.length) : (lls l).getD i [] = [lstC 1 (strs l[i])] := by simp [lls, encLs, h]
theorem normRows_lls (l : List (List Txt)) : C.normRows (lls l) = lls l := normRows_eq (f := encLs) (fun x => by simp only [encLs, C.normRow, norm_s]) l
theorem v27 (l : List Txt) (s : Txt) : Spec Tryz.prog 27 [lst 1 (strs l), .str s] (fun r => r = .bool (decide (s ∈ l))) := by
  refine Spec.of_len hf27 fun hlen => ?_
  have hl := len_lst (sz := 1) (rows := strs l) List.mem_cons_self hlen
  rw [strs_len] at hl
  clear hlen
  refine Spec.of_awlS hf27 okf27 (by simp) fun S hS => ?_
  simp only [Qs, Nat.reduceAdd, uu f27.eq_1, uu f27b16.eq_1, vv f27r17.eq_1, uu f27b18.eq_1, uu f27b19.eq_1, vv f27r20.eq_1, uu f27b21.eq_1]
  rw [uf27l15]
  refine awl_loop (fun i : Nat => [(0, lst 1 (strs l)), (1, .str s), (5, .int .i64 i)]) (fun _ => []) (fun i => i ≤ l.length ∧ s ∉ l.take i) (fun i => l.length - i) 0 rfl rfl ⟨Nat.zero_le _, by simp⟩ ?_
  rintro i ⟨hi, hn⟩
  by_cases hlt : i < l.length
  · have c1 : (i : Int) < l.length := by omega
    have c4 : IntKind.i64.wrap ((i : Int) + 1) = (i : Int) + 1 := wrap_in (by omega) (by omega)
    by_cases he : l[i] = s
    · simp only [c1, c4, he, strs_len, strs_at hlt, Qs, q_binStr_eq_2, if_true, BEq.rfl, List.nodup_nil, Nat.reduceBEq, vv f27r3.eq_1, vv f27r4.eq_1, uu f27b5.eq_1, uu f27b6.eq_1, vv f27r7.eq_1, uu f27b8.eq_1, uu f27b9.eq_1, uu f27b10.eq_1, uu f27b11.eq_1, vv f27r12.eq_1, uu f27b13.eq_1, uu f27b14.eq_1]
      refine fin hS ?_
      rw [decide_eq_true (by rw [← he]; exact List.getElem_mem hlt)]
    · have he' : (l[i] == s) = false := by simpa using he
      simp only [c1, c4, he', strs_len, strs_at hlt, Qs, q_binStr_eq_2, if_true, Nat.reduceBEq, vv f27r3.eq_1, uu f27b6.eq_1, vv f27r7.eq_1, uu f27b8.eq_1, uu f27b9.eq_1, uu f27b10.eq_1, uu f27b11.eq_1, vv f27r12.eq_1, uu f27b13.eq_1, uu f27b14.eq_1]
      refine Next.intro (i + 1) rfl rfl ⟨by omega, ?_⟩ (by omega)
      rw [List.take_add_one, List.getElem?_eq_getElem hlt]
      simp only [Option.toList_some, List.mem_append, List.mem_singleton, not_or]
      exact ⟨hn, fun e => he e.symm⟩
  · obtain rfl : i = l.length := by omega
    have c1 : ¬ (l.length : Int) < l.length := by omega
    simp only [c1, strs_len, Qs, if_true, List.nodup_nil, Nat.reduceBEq, vv f27r1.eq_1, uu f27b2.eq_1, uu f27b11.eq_1, vv f27r12.eq_1, uu f27b13.eq_1, uu f27b14.eq_1]
    rw [List.take_length] at hn
    refine fin hS ?_
    rw [decide_eq_false hn]
def idxN : List Txt → Txt → Nat → Int
  | [], _, _ => -1
  | a :: l, s, i => if s = a then i else idxN l s (i + 1)
theorem idxN_drop {l : List Txt} {i : Nat} (s : Txt) (h : i < l.length) : idxN (l.drop i) s i = if s = l[i] then (i : Int) else idxN (l.drop (i + 1)) s (i + 1) := by
  rw [List.drop_eq_getElem_cons h, idxN]
theorem idxN_pos : ∀ (l : List Txt) (s : Txt) (i : Nat), idxN l s i ≥ 0 ↔ s ∈ l
  | [], s, i => by simp [idxN]
  | a :: l, s, i => by
    rw [idxN]
    by_cases h : s = a
    · rw [if_pos h]; simp [h]
    · rw [if_neg h, idxN_pos l s (i + 1)]; simp [h]
theorem v67 (l : List Txt) (s : Txt) : Spec Tryz.prog 67 [lst 1 (strs l), .str s] (fun r => r = .int .i64 (idxN l s 0)) := by
  refine Spec.of_len hf67 fun hlen => ?_
  have hl := len_lst (sz := 1) (rows := strs l) List.mem_cons_self hlen
  rw [strs_len] at hl
  clear hlen
  refine Spec.of_awlS hf67 okf67 (by simp) fun S hS => ?_
  simp only [strs_len, Qs, Nat.reduceAdd, Nat.reduceBEq, uu f67.eq_1, uu f67b18.eq_1, vv f67r19.eq_1, uu f67b20.eq_1, uu f67b21.eq_1, vv f67r22.eq_1, uu f67b23.eq_1]
  rw [uf67l17]
  refine awl_loop (fun i : Nat => [(0, lst 1 (strs l)), (1, .str s), (7, .int .i64 l.length), (8, .int .i64 i)]) (fun _ => []) (fun i => i ≤ l.length ∧ idxN (l.drop i) s i = idxN l s 0) (fun i => l.length - i) 0 rfl rfl ⟨Nat.zero_le _, rfl⟩ ?_
  rintro i ⟨hi, hn⟩
  by_cases hlt : i < l.length
  · have c1 : (i : Int) < l.length := by omega
    have c4 : IntKind.i64.wrap ((i : Int) + 1) = (i : Int) + 1 := wrap_in (by omega) (by omega)
    rw [idxN_drop s hlt] at hn
    by_cases he : s = l[i]
    · rw [if_pos he] at hn
      simp only [c1, c4, ← he, strs_len, strs_at hlt, Qs, q_binStr_eq_2, if_true, BEq.rfl, List.nodup_nil, Nat.reduceBEq, vv f67r3.eq_1, vv f67r4.eq_1, uu f67b5.eq_1, uu f67b6.eq_1, vv f67r7.eq_1, uu f67b8.eq_1, vv f67r9.eq_1, uu f67b10.eq_1, uu f67b11.eq_1, uu f67b12.eq_1, uu f67b13.eq_1, uu f67b14.eq_1, vv f67r15.eq_1, uu f67b16.eq_1]
      exact fin hS (by rw [← hn])
    · rw [if_neg he] at hn
      have he' : (s == l[i]) = false := by simpa using he
      simp only [c1, c4, he', strs_len, strs_at hlt, Qs, q_binStr_eq_2, if_true, Nat.reduceBEq, vv f67r3.eq_1, uu f67b6.eq_1, vv f67r7.eq_1, uu f67b8.eq_1, vv f67r9.eq_1, uu f67b10.eq_1, uu f67b11.eq_1, uu f67b12.eq_1, uu f67b13.eq_1, uu f67b14.eq_1, vv f67r15.eq_1, uu f67b16.eq_1]
      exact Next.intro (i + 1) rfl rfl ⟨by omega, hn⟩ (by omega)
  · obtain rfl : i = l.length := by omega
    have c1 : ¬ (l.length : Int) < l.length := by omega
    simp only [c1, strs_len, Qs, if_true, Int.reduceNeg, List.nodup_nil, Nat.reduceBEq, vv f67r1.eq_1, uu f67b2.eq_1, uu f67b13.eq_1, uu f67b14.eq_1, vv f67r15.eq_1, uu f67b16.eq_1]
    rw [List.drop_length] at hn
    exact fin hS (by rw [← hn]; rfl)
theorem v36 (l : List Txt) (s : Txt) : Spec Tryz.prog 36 [lst 1 (strs l), .str s] (fun r => r = .bool (decide (s ∈ l))) := by
  refine Spec.of_awlS hf36 okf36 (by simp) fun S hS => ?_
  simp only [normRows_strs, Qs, Nat.reduceAdd, Nat.reduceBEq, uu f36.eq_1, vv f36r1.eq_1, uu f36b2.eq_1, vv f36r3.eq_1, uu f36b4.eq_1]
  refine call_s (v67 l s) ?_
  have h := idxN_pos l s 0
  by_cases hm : s ∈ l
  · have h1 := h.2 hm
    simp only [h1, Qs, if_true, List.nodup_nil]
    exact fin hS (by rw [decide_eq_true hm])
  · have h1 : ¬ idxN l s 0 ≥ 0 := fun g => hm (h.1 g)
    simp only [h1, Qs, if_true, List.nodup_nil]
    exact fin hS (by rw [decide_eq_false hm])
def longB (l : List Txt) : Bool := decide ((l.length : Int) > 500)
theorem v74 (l : List Txt) : Spec Tryz.prog 74 [lst 1 (strs l)] (fun r => r = .bool (longB l)) := by
  refine Spec.of_awlS hf74 okf74 (by simp) fun S hS => ?_
  simp only [strs_len, Qs, if_true, List.nodup_nil, Nat.reduceBEq, uu f74.eq_1, vv f74r1.eq_1, uu f74b2.eq_1, vv f74r3.eq_1, uu f74b4.eq_1]
  unfold longB at hS
  by_cases h : (l.length : Int) > 500 <;> simp only [h, Qs] <;> simpa [h] using hS
def idxL : List (List Txt) → Nat → Int
  | [], _ => -1
  | a :: l, i => if longB a = true then i else idxL l (i + 1)
theorem idxL_drop {l : List (List Txt)} {i : Nat} (h : i < l.length) : idxL (l.drop i) i = if longB l[i] = true then (i : Int) else idxL (l.drop (i + 1)) (i + 1) := by
  rw [List.drop_eq_getElem_cons h, idxL]
theorem idxL_pos : ∀ (l : List (List Txt)) (i : Nat), idxL l i ≥ 0 ↔ l.any longB = true
  | [], i => by simp [idxL]
  | a :: l, i => by
    rw [idxL]
    by_cases h : longB a = true
    · rw [if_pos h]; simp [h]
    · rw [if_neg h, idxL_pos l (i + 1)]; simp [h]
theorem v94 (l : List (List Txt)) : Spec Tryz.prog 94 [lst 1 (lls l), .k (.c (.fn 74 []))] (fun r => r = .int .i64 (idxL l 0)) := by
  refine Spec.of_len hf94 fun hlen => ?_
  have hl := len_lst (sz := 1) (rows := lls l) List.mem_cons_self hlen
  rw [lls_len] at hl
  clear hlen
  refine Spec.of_awlS hf94 okf94 (by simp) fun S hS => ?_
  simp only [lls_len, Qs, Nat.reduceAdd, Nat.reduceBEq, uu f94.eq_1, uu f94b18.eq_1, vv f94r19.eq_1, uu f94b20.eq_1, uu f94b21.eq_1, vv f94r22.eq_1, uu f94b23.eq_1]
  rw [uf94l17]
  refine awl_loop (fun i : Nat => [(0, lst 1 (lls l)), (1, .k (.c (.fn 74 []))), (7, .int .i64 l.length), (8, .int .i64 i)]) (fun _ => []) (fun i => i ≤ l.length ∧ idxL (l.drop i) i = idxL l 0) (fun i => l.length - i) 0 rfl rfl ⟨Nat.zero_le _, rfl⟩ ?_
  rintro i ⟨hi, hn⟩
  by_cases hlt : i < l.length
  · have c1 : (i : Int) < l.length := by omega
    have c4 : IntKind.i64.wrap ((i : Int) + 1) = (i : Int) + 1 := wrap_in (by omega) (by omega)
    rw [idxL_drop hlt] at hn
    simp only [c1, c4, lls_len, lls_at hlt, normRows_strs, Qs, q_exL_eq_29, if_true, Nat.reduceBEq, vv f94r3.eq_1, vv f94r7.eq_1, uu f94b8.eq_1, vv f94r9.eq_1, uu f94b10.eq_1, uu f94b11.eq_1, uu f94b12.eq_1, uu f94b13.eq_1, uu f94b14.eq_1, vv f94r15.eq_1, uu f94b16.eq_1]
    refine call_c (v74 l[i]) ?_ (ha := by simp [lendL, V.norm, lst])
    by_cases he : longB l[i] = true
    · rw [if_pos he] at hn
      simp only [he, Qs, q_C_norm_eq_3, List.nodup_nil, Nat.reduceBEq, vv f94r4.eq_1, uu f94b5.eq_1, uu f94b6.eq_1]
      exact fin hS (by rw [← hn])
    · rw [if_neg he] at hn
      simp only [he, c4, Qs, if_true, Nat.reduceBEq, uu f94b6.eq_1]
      exact Next.intro (i + 1) rfl rfl ⟨by omega, hn⟩ (by omega)
  · obtain rfl : i = l.length := by omega
    have c1 : ¬ (l.length : Int) < l.length := by omega
    simp only [c1, lls_len, Qs, q_C_norm_eq_3, if_true, Int.reduceNeg, List.nodup_nil, Nat.reduceBEq, vv f94r1.eq_1, uu f94b2.eq_1, uu f94b13.eq_1, uu f94b14.eq_1, vv f94r15.eq_1, uu f94b16.eq_1]
    rw [List.drop_length] at hn
    exact fin hS (by rw [← hn]; rfl)
theorem v73 (l : List (List Txt)) : Spec Tryz.prog 73 [lst 1 (lls l), .k (.c (.fn 74 []))] (fun r => r = .bool (l.any longB)) := by
  refine Spec.of_awlS hf73 okf73 (by simp) fun S hS => ?_
  simp only [normRows_lls, Qs, Nat.reduceAdd, Nat.reduceBEq, uu f73.eq_1, vv f73r1.eq_1, uu f73b2.eq_1, vv f73r3.eq_1, uu f73b4.eq_1]
  refine call_s (v94 l) ?_ (ha := by simp [lendL, V.norm, lst, normRows_lls])
  have h := idxL_pos l 0
  by_cases hm : l.any longB = true
  · have h1 := h.2 hm
    simp only [h1, Qs, q_C_norm_eq_3, if_true, List.nodup_nil]
    exact fin hS (by rw [hm])
  · have h1 : ¬ idxL l 0 ≥ 0 := fun g => hm (h.1 g)
    simp only [h1, Qs, q_C_norm_eq_3, if_true, List.nodup_nil]
    exact fin hS (by simpa using hm)
def rightL (l : List (List Txt)) : Bool := decide ((l.length : Int) ≤ 3) && !(l.any longB)
theorem v48 (l : List (List Txt)) : Spec Tryz.prog 48 [lst 1 (lls l)] (fun r => r = .bool (rightL l)) := by
  refine Spec.of_awlS hf48 okf48 (by simp) fun S hS => ?_
  unfold rightL at hS
  by_cases h : (l.length : Int) ≤ 3
  · simp only [h, lls_len, Qs, if_true, Nat.reduceBEq, uu f48.eq_1, vv f48r1.eq_1, uu f48b2.eq_1, vv f48r3.eq_1, uu f48b4.eq_1]
    refine call_s (v73 l) ?_ (ha := by simp [lendL, V.norm, lst, normRows_lls])
    cases hm : l.any longB <;> simp only [Qs, if_true, List.nodup_nil, Nat.reduceBEq] <;> simpa [h, hm] using hS
  · simp only [h, lls_len, Qs, if_true, List.nodup_nil, Nat.reduceBEq, uu f48.eq_1, vv f48r1.eq_1, uu f48b2.eq_1, vv f48r3.eq_1, uu f48b4.eq_1]
    simpa [h] using hS
theorem fine_eq {l : List (List Txt)} (h : (l.length : Int) ≤ 3) {i : Nat} (hi : i = l.length) (hd : (l.take i).all (fun x => !longB x) = true) : rightL l = true := by
  subst hi
  rw [List.take_length] at hd
  unfold rightL
  rw [decide_eq_true h, Bool.true_and]
  simpa using hd
theorem v29 (l : List (List Txt)) : Spec Tryz.prog 29 [lst 1 (lls l)] (fun r => r = .bool (rightL l)) := by
  refine Spec.of_len hf29 fun hlen => ?_
  have hl := len_lst (sz := 1) (rows := lls l) List.mem_cons_self hlen
  rw [lls_len] at hl
  clear hlen
  refine Spec.of_awlS hf29 okf29 (by simp) fun S hS => ?_
  simp only [Qs, uu f29.eq_1, uu f29b16.eq_1, vv f29r17.eq_1, uu f29b18.eq_1, uu f29b19.eq_1, vv f29r20.eq_1, uu f29b21.eq_1]
  rw [uf29l15]
  refine awl_loop (fun i : Nat => [(0, lst 1 (lls l)), (3, .int .i64 i)]) (fun _ => []) (fun i => i ≤ l.length ∧ i ≤ 5 ∧ (l.take i).all (fun x => !longB x) = true) (fun i => l.length - i) 0 rfl rfl ⟨Nat.zero_le _, by omega, rfl⟩ ?_
  rintro i ⟨hi, h5, hd⟩
  have fin2 : ¬ (i < l.length ∧ i < 5) → S (.bool (decide ((l.length : Int) ≤ 3))) := by
    intro hno
    refine fin hS ?_
    by_cases h3 : (l.length : Int) ≤ 3
    · rw [fine_eq h3 (by omega) hd, decide_eq_true h3]
    · unfold rightL; rw [decide_eq_false h3, Bool.false_and]
  by_cases hlt : i < l.length
  · have c1 : (i : Int) < l.length := by omega
    by_cases hlt5 : i < 5
    · have c2 : (i : Int) < 5 := by omega
      have c4 : IntKind.i64.wrap ((i : Int) + 1) = (i : Int) + 1 := wrap_in (by omega) (by omega)
      by_cases h1 : (l[i].length : Int) > 500
      · simp only [c1, c2, c4, h1, lls_len, lls_at hlt, strs_len, normRows_strs, Qs, if_true, List.nodup_nil, Nat.reduceBEq, vv f29r3.eq_1, vv f29r4.eq_1, uu f29b5.eq_1, uu f29b6.eq_1, vv f29r7.eq_1, uu f29b8.eq_1, uu f29b9.eq_1, uu f29b10.eq_1, uu f29b11.eq_1, vv f29r12.eq_1, uu f29b13.eq_1, uu f29b14.eq_1]
        refine fin hS ?_
        have : l.any longB = true := List.any_eq_true.2 ⟨l[i], List.getElem_mem hlt, decide_eq_true h1⟩
        unfold rightL
        rw [this]; simp
      · simp only [c1, c2, c4, h1, lls_len, lls_at hlt, strs_len, normRows_strs, Qs, if_true, Nat.reduceBEq, vv f29r3.eq_1, uu f29b6.eq_1, vv f29r7.eq_1, uu f29b8.eq_1, uu f29b9.eq_1, uu f29b10.eq_1, uu f29b11.eq_1, vv f29r12.eq_1, uu f29b13.eq_1, uu f29b14.eq_1]
        refine Next.intro (i + 1) rfl rfl ⟨by omega, by omega, ?_⟩ (by omega)
        rw [List.take_add_one, List.getElem?_eq_getElem hlt, List.all_append, hd]
        simp [longB]; omega
    · have c2 : ¬ (i : Int) < 5 := by omega
      simp only [c1, c2, lls_len, Qs, if_true, List.nodup_nil, Nat.reduceBEq, vv f29r1.eq_1, uu f29b2.eq_1, uu f29b11.eq_1, vv f29r12.eq_1, uu f29b13.eq_1, uu f29b14.eq_1]
      exact fin2 (fun g => hlt5 g.2)
  · have c1 : ¬ (i : Int) < l.length := by omega
    simp only [c1, lls_len, Qs, if_true, List.nodup_nil, Nat.reduceBEq, vv f29r1.eq_1, uu f29b2.eq_1, uu f29b11.eq_1, vv f29r12.eq_1, uu f29b13.eq_1, uu f29b14.eq_1]
    exact fin2 (fun g => hlt g.1)
end Go.Abs


set_option maxRecDepth 100000
set_option maxHeartbeats 4000000
namespace Go.Abs
open Go.Proofs Go.Wire Go.RowKit Go.Jr Go.Rg
theorem s38 (l : List Wr) (hl : l.length ≤ 512) : Spec Tryz.prog 38 [lst 2 (wrs l)] (fun r => r = .k (.newl 52 2 none (wrs l))) := by
  refine ⟨callable_at (by kernel_rfl), fun w Z vs hG hz ha => ?_⟩
  obtain ⟨vl⟩ := vs
  match vl, ha with
  | [], ha => exact absurd ha.1 (by simp)
  | _ :: _ :: _, ha => exact absurd ha.1 (by simp)
  | [v], ha =>
    obtain ⟨p, k, rfl, q, m⟩ := (plain_wrs l).slice (ha.2 0 _ v rfl rfl).2.2
    refine (clone46_any p (wrs l).length k (cellsC (wrs l)) w (plain_wrs l).clen (by rw [wrs_len]; exact hl) q (plain_wrs l).one).mono ?_
    rintro e w' ⟨v', rfl, ho, hb⟩
    exact ⟨_, _, rfl, rfl, fun τ => rfl, rrep1 hG (kept_of_below hb) (fresh_of_owns (plain_wrs l) ho rfl)⟩
def takeR (d : Disk) (s : Txt) : Disk × Int := if (readJ d).2 ≠ 0 then (zeroD, (readJ d).2) else if s ∈ (readJ d).1.list then (d, 5) else appendJ d s
theorem v14 (d : Disk) (h : Right d) (s : Txt) (hs : s.length ≤ 1000000000) : Spec Tryz.prog 14 [dV d, .str s] (fun r => r = resD (takeR d s)) := by
  refine Spec.of_awlP hf14 okf14 (by simp) fun S hS => ?_
  have c35 := b20 d h
  have c39 := b11 d h s hs
  have hhi := h.hi
  have hpe := h.pe
  unfold takeR at hS
  generalize appendJ d s = Y at c39 hS
  generalize readJ d = X at c35 hS
  obtain ⟨⟨xl, xb, xc⟩, xe⟩ := X
  obtain ⟨⟨ys, yp, yl, yd⟩, ye⟩ := Y
  obtain ⟨secs, pend, left, down⟩ := d
  simp only [] at hhi hpe
  simp only [resD, dV, encD] at *
  simp only [normRows_strs, normRows_wrs, Qs, if_true, bne_iff_ne, ne_eq, Nat.reduceAdd, Nat.reduceEqDiff, Nat.reduceBEq, uu f14.eq_1, vv f14r17.eq_1, uu f14b18.eq_1, vv f14r19.eq_1, uu f14b20.eq_1]
  refine call_r c35 ?_
  by_cases he : xe = 0
  · subst he
    rw [if_neg (by simp)] at hS
    simp only [normRows_strs, normRows_wrs, Qs, if_true, List.append_nil, Nat.reduceAdd, Nat.reduceMul, Nat.reduceBEq, Int.reduceBNe, vv f14r8.eq_1, uu f14b9.eq_1, uu f14b10.eq_1, uu f14b13.eq_1, vv f14r14.eq_1, uu f14b15.eq_1, uu f14b16.eq_1]
    refine call_s (v36 xl s) ?_
    by_cases hm : s ∈ xl
    · rw [if_pos hm] at hS
      have hd : decide (s ∈ xl) = true := decide_eq_true hm
      simp only [hd, normRows_strs, normRows_wrs, Qs, if_false, Nat.reduceAdd, Nat.reduceLeDiff, Nat.reduceBEq, vv f14r5.eq_1, uu f14b6.eq_1, uu f14b7.eq_1]
      refine callQ_l (s37 secs (by omega)) ?_
      simp only [V.fz, Abs.K.fz, normRows_strs, normRows_wrs, Qs, if_false, Nat.reduceAdd, Nat.reduceLeDiff, Nat.reduceBEq]
      refine callQ_l (s38 pend hpe) ?_
      simp only [V.fz, Abs.K.fz, normRows_strs, normRows_wrs, Qs, if_true, List.append_nil, List.nodup_nil, Nat.reduceAdd, Nat.reduceLeDiff, Nat.reduceLT, Nat.reduceBEq, vv f14r3.eq_1, uu f14b4.eq_1]
      exact fin_T hS (norm_s _) (norm_w _) rfl
    · rw [if_neg hm] at hS
      have hd : decide (s ∈ xl) = false := decide_eq_false hm
      simp only [hd, normRows_strs, normRows_wrs, Qs, if_true, Nat.reduceAdd, Nat.reduceBEq, vv f14r1.eq_1, uu f14b2.eq_1, uu f14b7.eq_1]
      refine call_r c39 ?_
      simp only [normRows_strs, normRows_wrs, Qs, if_true, List.append_nil, List.nodup_nil, Nat.reduceAdd, Nat.reduceMul, Nat.reduceLT, Nat.reduceBEq]
      exact fin_T hS (norm_s _) (norm_w _) rfl
  · rw [if_pos he] at hS
    simp only [he, normRows_strs, normRows_wrs, Qs, if_true, forall_const, List.append_nil, List.nodup_nil, Nat.reduceAdd, Nat.reduceMul, Nat.reduceLT, Nat.reduceBEq, vv f14r8.eq_1, uu f14b9.eq_1, uu f14b10.eq_1, vv f14r11.eq_1, uu f14b12.eq_1, uu f14b13.eq_1, vv f14r14.eq_1, uu f14b15.eq_1, uu f14b16.eq_1]
    exact fin_T hS (secs := []) (pend := []) rfl rfl rfl
theorem left_take {d : Disk} (h : Right d) (s : Txt) : Left (takeR d s) := by
  unfold takeR
  by_cases h1 : (readJ d).2 ≠ 0
  · rw [if_pos h1]; exact .inl ⟨rfl, h1⟩
  · rw [if_neg h1]
    by_cases h2 : s ∈ (readJ d).1.list
    · rw [if_pos h2]; exact .inr h
    · rw [if_neg h2]; exact left_append h s
def repairR : Disk → List Txt → Nat → (Disk × Nat) × Int
  | d, [], n => ((d, n), 0)
  | d, s :: l, n => if (takeR d s).2 = 0 then repairR (takeR d s).1 l (n + 1)
    else if (takeR d s).2 = 5 then repairR d l n
    else if (takeR d s).2 = 8 ∧ (takeR d s).1.secs ≠ [] then (((takeR d s).1, n), 8)
    else ((d, n), (takeR d s).2)
def resR (x : (Disk × Nat) × Int) : V := .tup [dV x.1.1, .int .i64 (x.1.2 : Int), .int .i64 x.2]
theorem fin_R {S : V → Prop} {X : V} (h : ∀ r, r.fz.nrm = X → S r) {c1 c2 : C} {l e m : Int} {n : Nat} {b : Bool} {secs : List Txt} {pend : List Wr} (h1 : c1.norm = lstC 1 (strs secs)) (h2 : c2.norm = lstC 2 (wrs pend)) (hm : m = n) (hX : X = resR ((⟨secs, pend, l, b⟩, n), e)) : S (.tup [.agg [c1, c2, .int .i64 l, .bool b], .k (.c (.int .i64 m)), .k (.c (.int .i64 e))]) := by
  refine h _ ?_
  subst hm
  simp only [V.fz, V.nrm, V.fzL, V.nrmL, Abs.K.fz, Abs.K.nrm, C.normRow, h1, h2, norm_int, norm_bool, hX, resR, dV, encD]
theorem v25 (d : Disk) (h : Right d) (l : List Txt) (hl : l.length ≤ 1000000) (hs : ∀ s ∈ l, s.length ≤ 1000000000) : Spec Tryz.prog 25 [dV d, lst 1 (strs l)] (fun r => r = resR (repairR d l 0)) := by
  refine Spec.of_awlP hf25 okf25 (by simp) fun S hS => ?_
  simp only [dV, encD, strs_len, normRows_strs, normRows_wrs, Qs, bne_iff_ne, ne_eq, Nat.reduceAdd, Nat.reduceEqDiff, Nat.reduceBEq, uu f25.eq_1, uu f25b32.eq_1, vv f25r33.eq_1, uu f25b34.eq_1, uu f25b35.eq_1, vv f25r36.eq_1, uu f25b37.eq_1, vv f25r38.eq_1, uu f25b39.eq_1]
  rw [uf25l31]
  refine awl_loop (fun x : Nat × Disk × Nat => [(2, .k (.ptr 2 0)), (4, .k (.ptr 4 0)), (7, .int .i64 x.2.2), (12, lst 1 (strs l)), (13, .int .i64 l.length), (14, .int .i64 x.1)])
    (fun x => [(2, objC x.2.1.secs x.2.1.pend x.2.1.left x.2.1.down), (4, .var 25 [.c (.list 0 (some true) []), .c (.list 0 (some true) []), .c (.int .i64 0), .c (.bool false)])])
    (fun x => x.1 ≤ l.length ∧ x.2.2 ≤ x.1 ∧ Right x.2.1 ∧ repairR x.2.1 (l.drop x.1) x.2.2 = repairR d l 0) (fun x => l.length - x.1) (0, d, 0) rfl rfl ⟨Nat.zero_le _, Nat.le_refl _, h, rfl⟩ ?_
  rintro ⟨i, D, n⟩ ⟨hi, hn, hR, hj⟩
  simp only [] at hi hn hR hj
  by_cases hlt : i < l.length
  · have c1 : (i : Int) < l.length := by omega
    have c4 : IntKind.i64.wrap ((i : Int) + 1) = (i : Int) + 1 := wrap_in (by omega) (by omega)
    have c5 : IntKind.i64.wrap ((n : Int) + 1) = ((n + 1 : Nat) : Int) := by rw [wrap_in (by omega) (by omega)]; omega
    rw [List.drop_eq_getElem_cons hlt, repairR] at hj
    have cT := v14 D hR l[i] (hs _ (List.getElem_mem hlt))
    have hL := left_take hR l[i]
    generalize takeR D l[i] = X at cT hL hj
    obtain ⟨⟨xs, xp, xl, xd⟩, xe⟩ := X
    simp only [] at hj
    simp only [resD, dV, encD] at cT
    simp only [c1, c4, strs_len, strs_at hlt, normRows_strs, normRows_wrs, Qs, if_true, Nat.reduceAdd, Nat.reduceBEq, vv f25r3.eq_1, vv f25r21.eq_1, uu f25b22.eq_1, vv f25r23.eq_1, uu f25b24.eq_1, uu f25b25.eq_1, uu f25b26.eq_1, uu f25b27.eq_1, uu f25b28.eq_1, vv f25r29.eq_1, uu f25b30.eq_1]
    refine call_r cT ?_
    by_cases e0 : xe = 0
    · subst e0
      rw [if_pos rfl] at hj
      simp only [c4, c5, normRows_strs, normRows_wrs, Qs, if_true, bne_iff_ne, ne_eq, BEq.rfl, List.append_nil, Nat.reduceAdd, Nat.reduceMul, Nat.reduceEqDiff, Nat.reduceBEq, vv f25r4.eq_1, vv f25r5.eq_1, uu f25b6.eq_1, uu f25b17.eq_1, vv f25r18.eq_1, uu f25b19.eq_1, uu f25b20.eq_1]
      exact Next.intro (i + 1, ⟨xs, xp, xl, xd⟩, n + 1) rfl rfl ⟨by show i + 1 ≤ l.length; omega, by show n + 1 ≤ i + 1; omega, hL.good (.inl rfl), hj⟩ (by show l.length - (i + 1) < l.length - i; omega)
    · rw [if_neg e0] at hj
      by_cases e5 : xe = 5
      · subst e5
        rw [if_pos rfl] at hj
        simp only [c4, normRows_strs, normRows_wrs, Qs, if_true, bne_iff_ne, ne_eq, List.append_nil, Nat.reduceAdd, Nat.reduceMul, Nat.reduceEqDiff, Nat.reduceBEq, Int.reduceBEq, Int.reduceBNe, uu f25b11.eq_1, vv f25r12.eq_1, uu f25b13.eq_1, uu f25b14.eq_1, vv f25r15.eq_1, uu f25b16.eq_1, uu f25b17.eq_1, vv f25r18.eq_1, uu f25b19.eq_1, uu f25b20.eq_1]
        exact Next.intro (i + 1, D, n) rfl rfl ⟨by show i + 1 ≤ l.length; omega, by show n ≤ i + 1; omega, hR, hj⟩ (by show l.length - (i + 1) < l.length - i; omega)
      · rw [if_neg e5] at hj
        by_cases e8 : xe = 8
        · subst e8
          by_cases hx : xs = []
          · subst hx
            rw [if_neg (fun g => g.2 rfl)] at hj
            rw [← hj] at hS
            simp only [c4, strs_len, normRows_strs, normRows_wrs, Qs, if_true, if_false, bne_iff_ne, ne_eq, BEq.rfl, List.append_nil, List.nodup_nil, Nat.reduceAdd, Nat.reduceMul, Nat.reduceEqDiff, Nat.reduceLeDiff, Nat.reduceLT, Nat.reduceBEq, Int.reduceGT, Int.reduceBEq, Int.reduceBNe, vv f25r9.eq_1, uu f25b10.eq_1, uu f25b11.eq_1, vv f25r12.eq_1, uu f25b13.eq_1, uu f25b14.eq_1, vv f25r15.eq_1, uu f25b16.eq_1, uu f25b17.eq_1, vv f25r18.eq_1, uu f25b19.eq_1, uu f25b20.eq_1]
            exact fin_R hS (norm_s _) (norm_w _) rfl rfl
          · rw [if_pos ⟨rfl, hx⟩] at hj
            rw [← hj] at hS
            have hpos : (xs.length : Int) > 0 := by have := List.length_pos_iff.2 hx; omega
            simp only [c4, hpos, strs_len, normRows_strs, normRows_wrs, Qs, if_true, if_false, bne_iff_ne, ne_eq, BEq.rfl, List.append_nil, List.nodup_nil, Nat.reduceAdd, Nat.reduceMul, Nat.reduceEqDiff, Nat.reduceLeDiff, Nat.reduceLT, Nat.reduceBEq, Int.reduceBEq, vv f25r7.eq_1, uu f25b8.eq_1, uu f25b14.eq_1, vv f25r15.eq_1, uu f25b16.eq_1, uu f25b17.eq_1, vv f25r18.eq_1, uu f25b19.eq_1, uu f25b20.eq_1]
            exact fin_R hS (norm_s _) (norm_w _) rfl rfl
        · rw [if_neg (fun g => e8 g.1)] at hj
          rw [← hj] at hS
          simp only [e0, e5, e8, c4, strs_len, normRows_strs, normRows_wrs, Qs, if_true, if_false, forall_const, bne_iff_ne, ne_eq, List.append_nil, List.nodup_nil, Nat.reduceAdd, Nat.reduceMul, Nat.reduceEqDiff, Nat.reduceLeDiff, Nat.reduceLT, Nat.reduceBEq, vv f25r4.eq_1, vv f25r5.eq_1, uu f25b6.eq_1, vv f25r7.eq_1, uu f25b8.eq_1, vv f25r9.eq_1, uu f25b10.eq_1, uu f25b11.eq_1, vv f25r12.eq_1, uu f25b13.eq_1, uu f25b14.eq_1, vv f25r15.eq_1, uu f25b16.eq_1, uu f25b17.eq_1, vv f25r18.eq_1, uu f25b19.eq_1, uu f25b20.eq_1]
          exact fin_R hS (norm_s _) (norm_w _) rfl rfl
  · have c1 : ¬ (i : Int) < l.length := by omega
    rw [List.drop_eq_nil_of_le (by omega), repairR] at hj
    rw [← hj] at hS
    simp only [c1, strs_len, normRows_strs, normRows_wrs, Qs, if_true, List.append_nil, List.nodup_nil, Nat.reduceAdd, Nat.reduceLT, Nat.reduceBEq, vv f25r1.eq_1, uu f25b2.eq_1, uu f25b27.eq_1, uu f25b28.eq_1, vv f25r29.eq_1, uu f25b30.eq_1]
    exact fin_R hS (norm_s _) (norm_w _) rfl rfl
theorem v18 (d : Disk) (h : Right d) : Spec Tryz.prog 18 [dV d] (fun r => r = .tup [lst 1 (strs (readJ d).1.list), .int .i64 (readJ d).2]) := by
  refine Spec.of_awlS hf18 okf18 (by simp) fun S hS => ?_
  have c35 := b20 d h
  generalize readJ d = X at c35 hS
  obtain ⟨⟨xl, xb, xc⟩, xe⟩ := X
  obtain ⟨secs, pend, left, down⟩ := d
  simp only [dV, encD] at *
  simp only [normRows_strs, normRows_wrs, Qs, if_true, bne_iff_ne, ne_eq, Nat.reduceAdd, Nat.reduceEqDiff, Nat.reduceBEq, uu f18.eq_1, vv f18r1.eq_1, uu f18b2.eq_1, vv f18r3.eq_1, uu f18b4.eq_1]
  refine call_r c35 ?_
  simp only [normRows_strs, normRows_wrs, Qs, List.append_nil, List.nodup_nil, Nat.reduceAdd, Nat.reduceMul, Nat.reduceBEq]
  exact hS
theorem v16 (d : Disk) (h : Right d) : Spec Tryz.prog 16 [dV d] (fun r => r = resD (startD d)) := by
  refine Spec.of_awlP hf16 okf16 (by simp) fun S hS => ?_
  have c35 := b19 d h
  generalize startD d = X at c35 hS
  obtain ⟨⟨xs, xp, xl, xd⟩, xe⟩ := X
  obtain ⟨secs, pend, left, down⟩ := d
  simp only [resD, dV, encD] at *
  simp only [normRows_strs, normRows_wrs, Qs, if_true, bne_iff_ne, ne_eq, Nat.reduceAdd, Nat.reduceEqDiff, Nat.reduceBEq, uu f16.eq_1, vv f16r1.eq_1, uu f16b2.eq_1, vv f16r3.eq_1, uu f16b4.eq_1]
  refine call_r c35 ?_
  simp only [normRows_strs, normRows_wrs, Qs, if_true, List.append_nil, List.nodup_nil, Nat.reduceAdd, Nat.reduceMul, Nat.reduceLT, Nat.reduceBEq]
  exact fin_T hS (norm_s _) (norm_w _) rfl
end Go.Abs


set_option maxRecDepth 100000
set_option maxHeartbeats 8000000
namespace Go.Proofs
open Go.Shelf Go.RowKit Go.Lib
def mix {α : Type} (z : α) (zs : List α) (m : Nat) : List α := List.replicate m z ++ zs.drop m
theorem mix_len {α : Type} (z : α) (zs : List α) {m : Nat} (h : m ≤ zs.length) : (mix z zs m).length = zs.length := by simp [mix]; omega
theorem mix_splice {α : Type} (z : α) (zs : List α) {m k : Nat} (h : m + k ≤ zs.length) : splice (mix z zs m) m (List.replicate k z) = mix z zs (m + k) := by
  unfold splice mix
  rw [List.take_left' (by simp), List.length_replicate, List.drop_append, List.length_replicate, List.drop_eq_nil_of_le (by simp), List.nil_append, List.drop_drop, ← List.replicate_append_replicate, show m + (m + k - m) = m + k by omega, List.append_assoc]
theorem mix_get {α : Type} (z : α) (zs : List α) {m j : Nat} (h : j < m) : (mix z zs m)[j]? = some z := by
  unfold mix
  rw [List.getElem?_append_left (by simpa using h), List.getElem?_replicate, if_pos h]
theorem repeat56 (b o c n : Nat) (z : ByteArray) (w : World) (h0 : 1 ≤ n) (hn : n ≤ 512) (hz : w.cell? ⟨b, o, none⟩ = some (.string z)) :
    Calls Tryz.prog 56 #[.slice (some ⟨b, o, none⟩) 1 c, .int .i64 n] w fun e w' => ∃ g, e = .returned (.slice (some ⟨g, 0, none⟩) n n) ∧ w.heap.size ≤ g ∧ w'.heap[g]? = some (.cells (List.replicate n (Value.string z)).toArray 9 (0, 0)) ∧ Below w.heap.size w w' := by
  obtain ⟨zs, hzl, hmk⟩ : ∃ zs : List Value, zs.length = n ∧ ∀ w : World, (Instr.makeSlice 22 (.int .i64 (n : Int)) (.int .i64 (n : Int))).run Tryz.prog w = .ok (.slice (some ⟨w.heap.size, 0, none⟩) n n) (w.alloc (.cells zs.toArray 9)) := by
    obtain ⟨i0, hi, hz0, hz1, hz2⟩ := info_parts (P := Tryz.prog) (e := 9) (z := .string ⟨#[]⟩) (size := 1) (bytes := 16) (by kernel_rfl)
    refine ⟨(madeCells (Value.string ⟨#[]⟩).cells n).toList, by rw [Array.length_toList, size_madeCells], fun w => ?_⟩
    have h := run_makeSlice (P := Tryz.prog) (w := w) 22 9 i0 (.string ⟨#[]⟩) Tryz.underlying22 hi hz0 .i64 .i64 (n : Int) (n : Int) (by omega) (Int.le_refl _) (by rw [hz1]; simp; omega) (by rw [hz2]; omega) (by omega)
    rw [hz1] at h
    simpa using h
  have c78 : ∀ w, Calls Tryz.prog 78 #[.int .u64 1, .int .u64 n] w fun e w' => e = .returned (.tuple #[.int .u64 0, .int .u64 n]) ∧ w' = w := fun w => by
    have h := Any.bits_Mul Tryz.laysMul 1 n (by omega) (by omega) w
    rw [show 1 * n / 18446744073709551616 = 0 by omega, show 1 * n % 18446744073709551616 = n by omega] at h
    exact h
  have i2 : ¬ (n : Int) < 0 := by omega
  have i3 : ¬ (n : Int) > 9223372036854775807 := by omega
  have wu : IntKind.u64.wrap (n : Int) = n := by unfold IntKind.wrap; simp [IntKind.signed, IntKind.bits]; omega
  have wi : IntKind.i64.wrap (n : Int) = n := Go.Abs.wrap_in (by omega) (by omega)
  go_enter Tryz.func56, Tryz.ntmps56
  go_wp2_with (first | (go_at_call 78; refine (c78 w).mono ?_; rintro e w1 ⟨rfl, hw⟩; rw [hw]; clear hw) | (refine wpList_copy_splice rfl _ _ 22 22 rfl 9 Tryz.underlying22 (by kernel_rfl) _ _ n n 1 c rfl rfl w.heap.size 0 zs 9 ?hg [Value.string z] ?hn ?hpos ?hfit ?h1 w.heap.size w ?hb ?hBg ?_))
  case hg => exact Go.Abs.alloc_get _ _
  case hn => exact (Nat.min_eq_left h0).symm
  case hpos =>
    intro j v hj
    cases j with
    | zero => simp at hj; subst hj; exact Lib.cell?_alloc_some _ hz
    | succ j => simp at hj
  case hfit => simp; omega
  case h1 => intro v hv; simp at hv; subst hv; rfl
  case hb => exact (Below.refl _ _).alloc (Nat.le_refl _) _
  case hBg => exact Nat.le_refl _
  intro w3 hg3 hb3
  have hg3 := hg3.out
  have e1 : splice zs 0 [Value.string z] = mix (Value.string z) zs 1 := by
    unfold splice mix
    simp
  rw [e1] at hg3
  clear c78 e1
  go_wp2
  go_loopg [8] (n - 1) (fun g i wr => ∃ m : Nat, 1 ≤ m ∧ m ≤ n ∧ g = n - m ∧ i = .int .i64 m ∧ wr.heap[w.heap.size]? = some (.cells (mix (Value.string z) zs m).toArray 9 (0, 0)) ∧ Below w.heap.size w wr)
  case atStart => exact ⟨1, Nat.le_refl _, h0, rfl, rfl, hg3, hb3⟩
  case round =>
    obtain ⟨m, m1, m2, rfl, rfl, hh, hb⟩ := hrel
    by_cases hlt : m < n
    · have hmn : (m : Int) < n := by omega
      obtain ⟨k, hk⟩ : ∃ k, k = Nat.min m (n - m) := ⟨_, rfl⟩
      have hk1 : k ≤ m ∧ k ≤ n - m := by subst hk; exact ⟨Nat.min_le_left _ _, Nat.min_le_right _ _⟩
      have hk2 : 1 ≤ k := by subst hk; exact Nat.le_min.2 ⟨m1, by omega⟩
      have ws : IntKind.i64.wrap ((m : Int) + k) = ((m + k : Nat) : Int) := by rw [Go.Abs.wrap_in (by omega) (by omega)]; omega
      have hne : ¬ n = m := by omega
      have hl : (mix (Value.string z) zs m).length = n := by rw [mix_len _ _ (by omega)]; exact hzl
      have hh' : wr.drew.heap[w.heap.size]? = some (.cells (mix (Value.string z) zs m).toArray 9 (0, 0)) := hh
      have hb' : Below w.heap.size w wr.drew := hb.drew
      have hn' : (List.replicate k (Value.string z)).length = Nat.min m (n - m) := by rw [List.length_replicate]; exact hk
      have hpos' : ∀ j v, (List.replicate k (Value.string z))[j]? = some v → wr.drew.cell? ((⟨w.heap.size, 0, none⟩ : Addr).add j) = some v := fun j v hj => by
        rw [List.getElem?_replicate] at hj
        split at hj
        · cases hj
          rw [Addr.add_lit, Nat.zero_add, Lib.cell_of_heap hh', List.getElem?_toArray]
          exact mix_get _ _ (by omega)
        · cases hj
      have hfit' : m + (List.replicate k (Value.string z)).length ≤ (mix (Value.string z) zs m).length := by rw [List.length_replicate, hl]; omega
      have h1' : ∀ v ∈ List.replicate k (Value.string z), v.oneCell' = true := fun v hv => by rw [(List.mem_replicate.1 hv).2]; rfl
      have A : Aside (wr.drew.heap[w.heap.size]? = some (.cells (mix (Value.string z) zs m).toArray 9 (0, 0)) ∧ Below w.heap.size w wr.drew ∧ (List.replicate k (Value.string z)).length = Nat.min m (n - m) ∧ (∀ j v, (List.replicate k (Value.string z))[j]? = some v → wr.drew.cell? ((⟨w.heap.size, 0, none⟩ : Addr).add j) = some v) ∧ m + (List.replicate k (Value.string z)).length ≤ (mix (Value.string z) zs m).length ∧ ∀ v ∈ List.replicate k (Value.string z), v.oneCell' = true) := ⟨hh', hb', hn', hpos', hfit', h1'⟩
      have B : Aside (m + k ≤ zs.length ∧ k ≤ n - m ∧ 1 ≤ k ∧ k = Nat.min m (n - m)) := ⟨by omega, by omega, by omega, hk⟩
      clear hh' hb' hn' hpos' hfit' h1' hl hh hb hk hk1 hk2 hzl
      go_wp2
      go_region_law (refine step_copy_splice rfl _ _ 22 22 rfl 9 Tryz.underlying22 (by kernel_rfl) _ _ (n - m) (n - m) m n rfl rfl w.heap.size m (mix (Value.string z) zs m) 9 A.out.1 (List.replicate k (Value.string z)) A.out.2.2.1 (fun _ => ⟨rfl, _, rfl, A.out.2.2.2.1⟩) A.out.2.2.2.2.1 A.out.2.2.2.2.2 w.heap.size w A.out.2.1 (Nat.le_refl _) ?_; intro w4 hg4 hb4)
      all_goals
        obtain ⟨B1, B2, B3, B4⟩ := B.out
        have hg5 := hg4.out
        rw [mix_splice _ _ B1] at hg5
        clear A hg4
        go_wp2
        go_roundg (n - (m + k))
        case rel => exact ⟨m + k, by omega, by omega, rfl, by go_num, hg5, hb4⟩
        case measure => omega
    · obtain rfl : m = n := by omega
      have e2 : mix (Value.string z) zs m = List.replicate m (Value.string z) := by
        unfold mix; rw [List.drop_eq_nil_of_le (by omega), List.append_nil]
      rw [e2] at hh
      go_wp2
      go_ret
      exact ⟨w.heap.size, rfl, Nat.le_refl _, hh, hb⟩
end Go.Proofs


set_option maxRecDepth 100000
set_option maxHeartbeats 4000000
namespace Go.Abs
open Go.Proofs Go.Wire Go.RowKit Go.Jr
theorem s56 (n : Nat) (z : Txt) (h0 : 1 ≤ n) (hn : n ≤ 512) : Spec Tryz.prog 56 [lst 1 (strs [z]), .int .i64 n] (fun r => r = .k (.newl 9 1 none (strs (List.replicate n z)))) := by
  refine ⟨callable_at (by kernel_rfl), fun w Z vs hG hz ha => ?_⟩
  obtain ⟨v1, v2, rfl, h1, h2⟩ := arg2 ha
  obtain ⟨p, k, rfl, q, m⟩ := (plain_strs [z]).slice h1.2
  have e2 := prep_int h2.2
  subst e2
  obtain ⟨b, o, rfl, g⟩ := q (by simp)
  have hc := g 0 (.string ⟨z.toArray⟩) rfl
  rw [Nat.add_zero] at hc
  refine (repeat56 b o k n ⟨z.toArray⟩ w h0 hn hc).mono ?_
  rintro e w' ⟨g2, rfl, hg, hh, hb⟩
  have hlen : (strs (List.replicate n z)).length = n := by rw [strs_len, List.length_replicate]
  refine ⟨_, _, rfl, rfl, fun τ => rfl, rrep1 hG (kept_of_below hb) (.inr ⟨g2, n, by rw [hlen], hg, ⟨_, hh, by rw [List.size_toArray, List.length_replicate, Nat.mul_one], fun i j r c hr hc => ?_⟩, by decide, by rw [hlen]; exact Nat.le_refl _, by unfold maxLen; omega, (plain_strs _).len⟩)⟩
  simp only [strs, List.map_replicate, List.getElem?_replicate] at hr
  split at hr
  · rename_i hi
    cases hr
    cases j with
    | succ j => simp [encS] at hc
    | zero =>
      simp [encS] at hc
      subst hc
      exact ⟨.string ⟨z.toArray⟩, by rw [List.getElem?_toArray, List.getElem?_replicate, Nat.mul_one, Nat.add_zero, if_pos hi], fun Z => .str _⟩
  · cases hr
def newX (n : Int) : Disk × Int := if n < 1 ∨ n > 512 then (zeroD, 1) else (newD n.toNat, 0)
theorem v31 (n : Int) : Spec Tryz.prog 31 [.int .i64 n] (fun r => r = resD (newX n)) := by
  refine Spec.of_awlP hf31 okf31 (by simp) fun S hS => ?_
  unfold newX at hS
  by_cases h1 : n < 1
  · rw [if_pos (.inl h1)] at hS
    simp only [h1, Qs, if_true, List.append_nil, List.nodup_nil, Nat.reduceAdd, Nat.reduceLT, Nat.reduceBEq, uu f31.eq_1, vv f31r3.eq_1, uu f31b4.eq_1, uu f31b5.eq_1, vv f31r6.eq_1, uu f31b7.eq_1, uu f31b8.eq_1, vv f31r9.eq_1, uu f31b10.eq_1]
    exact fin_T hS (secs := []) (pend := []) rfl rfl rfl
  · by_cases h2 : n > 512
    · rw [if_pos (.inr h2)] at hS
      simp only [h1, h2, Qs, if_true, if_false, List.append_nil, List.nodup_nil, Nat.reduceAdd, Nat.reduceLT, Nat.reduceBEq, uu f31.eq_1, vv f31r3.eq_1, uu f31b4.eq_1, uu f31b5.eq_1, vv f31r6.eq_1, uu f31b7.eq_1, uu f31b8.eq_1, vv f31r9.eq_1, uu f31b10.eq_1]
      exact fin_T hS (secs := []) (pend := []) rfl rfl rfl
    · rw [if_neg (fun h => h.elim h1 h2)] at hS
      obtain ⟨k, rfl⟩ : ∃ k : Nat, n = k := ⟨n.toNat, by omega⟩
      rw [Int.toNat_natCast] at hS
      have c57 := s43 16 (by omega)
      simp only [h1, h2, Qs, if_true, if_false, Int.reduceNeg, Nat.reduceBEq, uu f31.eq_1, vv f31r1.eq_1, uu f31b2.eq_1, uu f31b5.eq_1, vv f31r6.eq_1, uu f31b7.eq_1, uu f31b8.eq_1, vv f31r9.eq_1, uu f31b10.eq_1]
      refine call_s c57 ?_
      simp only [Qs, forall_eq, bne_iff_ne, ne_eq, Int.reduceNeg, List.mem_cons, Nat.reduceEqDiff, Nat.reduceLT, Nat.reduceBEq, List.not_mem_nil]
      refine call_o 12 (by simp [look, lookT]) (s56 k (zeros 16) (by omega) (by omega)) (by simp [lendL, lendO, lookO, V.isPure]) (by simp [lendL, lendO, lookO, V.norm, norm_list, lst]; rfl) (by simp [V.toks, Abs.K.toks]) (by simp [lookO, plainO]) rfl ?_
      simp only [normRows_strs, Qs, q_lookT_eq_1, q_vBuild_eq_2, q_C_normRows_eq_2, q_regN_eq_1, q_V_reg_eq_1, q_freesL_eq_2, q_addsL_eq_2, q_List_isEmpty_cons, if_true, if_false, or_true, bne_iff_ne, ne_eq, Int.reduceNeg, List.append_nil, List.nodup_nil, List.nodup_cons, Nat.reduceAdd, Nat.reduceEqDiff, Nat.reduceLeDiff, Nat.reduceLT, Nat.reduceBEq, List.not_mem_nil, z_O_var, z_K_ptr_arr]
      exact fin_K hS (pend := []) rfl rfl (norm_s' none _) rfl rfl
def newR (n : Int) : Disk × Int := if (newX n).2 ≠ 0 then (zeroD, (newX n).2) else formatJ (newX n).1
theorem newX_ok {n : Int} (h : (newX n).2 = 0) : Right (newX n).1 := by
  unfold newX at *
  by_cases h1 : n < 1 ∨ n > 512
  · rw [if_pos h1] at h; cases h
  · rw [if_neg h1]
    exact right_new (by omega) (by omega)
theorem v11 (n : Int) : Spec Tryz.prog 11 [.int .i64 n] (fun r => r = resD (newR n)) := by
  refine Spec.of_awlP hf11 okf11 (by simp) fun S hS => ?_
  have c31 := v31 n
  unfold newR at hS
  have hok := newX_ok (n := n)
  generalize newX n = X at c31 hS hok
  obtain ⟨⟨xs, xp, xl, xd⟩, xe⟩ := X
  simp only [resD, dV, encD] at c31
  simp only [normRows_strs, normRows_wrs, Qs, Nat.reduceBEq, uu f11.eq_1, vv f11r9.eq_1, uu f11b10.eq_1, vv f11r11.eq_1, uu f11b12.eq_1]
  refine call_r c31 ?_
  by_cases he : xe = 0
  · subst he
    rw [if_neg (by simp)] at hS
    have c17 := b17 _ (hok rfl)
    simp only [dV, encD] at c17 hS
    simp only [normRows_strs, normRows_wrs, Qs, if_true, bne_iff_ne, ne_eq, List.append_nil, Nat.reduceAdd, Nat.reduceMul, Nat.reduceEqDiff, Nat.reduceBEq, Int.reduceBNe, vv f11r1.eq_1, uu f11b2.eq_1, uu f11b5.eq_1, vv f11r6.eq_1, uu f11b7.eq_1, uu f11b8.eq_1]
    refine call_r c17 ?_
    generalize formatJ ⟨xs, xp, xl, xd⟩ = Y at hS ⊢
    obtain ⟨⟨ys, yp, yl, yd⟩, ye⟩ := Y
    simp only [resD, dV, encD, normRows_strs, normRows_wrs, Qs, if_true, List.append_nil, List.nodup_nil, Nat.reduceAdd, Nat.reduceMul, Nat.reduceLT, Nat.reduceBEq]
    exact fin_T hS (norm_s _) (norm_w _) rfl
  · rw [if_pos he] at hS
    simp only [he, normRows_strs, normRows_wrs, Qs, if_true, forall_const, bne_iff_ne, ne_eq, List.append_nil, List.nodup_nil, Nat.reduceAdd, Nat.reduceMul, Nat.reduceEqDiff, Nat.reduceLT, Nat.reduceBEq, vv f11r1.eq_1, uu f11b2.eq_1, vv f11r3.eq_1, uu f11b4.eq_1, uu f11b5.eq_1, vv f11r6.eq_1, uu f11b7.eq_1, uu f11b8.eq_1]
    exact fin_T hS (secs := []) (pend := []) rfl rfl rfl
end Go.Abs

