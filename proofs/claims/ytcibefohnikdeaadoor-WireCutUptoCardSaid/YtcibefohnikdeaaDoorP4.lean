/- A part of the proof that WireCut returns true for all arguments of bulk at most 1048576; the last text states it. -/
import Derived.Test.YtcibefohnikdeaaDoorP3
import Derived.Shelf.Strings.BuilderK
import Derived.Shelf.Strings.Builder1
import Derived.WalkKit
import Derived.BigCall
import Derived.Test.YtcibefohnikdeaaDoorRows
import Derived.Test.YtcibefohnikdeaaDoorCards
import Derived.Test.YtcibefohnikdeaaDoorTie
import Derived.ProofKit
import Derived.DataShut
import Derived.LaidMore
import Derived.Lib.LaidTab
import Derived.Lib.LaidU8
import Derived.OpenShut
import Derived.SevenTiedAt
import Derived.Deep.DeepHandedRow
import Derived.Deep.DeepWitnessRowRef
import Derived.Shelf.Vars
set_option linter.unusedVariables false
set_option linter.unusedSimpArgs false
set_option maxRecDepth 100000
set_option maxHeartbeats 2000000
namespace Go.Proofs
open Go.Shelf Go.RowKit Go.Lib
theorem Tryd.bx169 : Builder.Extra Tryd.prog Tryd.laysString_ren where
  sizeBuilder := by kernel_rfl
  liesBuilder := by kernel_rfl
  t5 := Tryd.underlying5
  a5 := Tryd.isAgg5
  z5 := Tryd.sizeOf5
  v5 := Tryd.zeroValue5
  infoByte := by kernel_rfl
  cellsByte := by kernel_rfl
  sizeByte := by kernel_rfl
  neB5 := by decide
theorem cc_used (b : Nat) (w : World) (h0 : w.cell? ⟨b, 0, none⟩ = some (.pointer (some ⟨b, 0, none⟩))) :
    Calls Tryd.prog 42 #[.pointer (some ⟨b, 0, none⟩)] w fun e w' => e = .returned (.tuple #[]) ∧ w' = w := by
  obtain ⟨j, hj, _⟩ := Option.map_eq_some_iff.1 Tryd.bx169.sizeBuilder
  go_enter Tryd.func42, Tryd.ntmps42
  go_wp2
  rw [Lib.run_neq_ptr_same w _ Tryd.underlying53 hj]
  go_wp2
  go_end0
  exact ⟨rfl, rfl⟩
theorem cc_fresh (b : Nat) (w : World) (h0 : w.cell? ⟨b, 0, none⟩ = some (.pointer none)) (hsh : w.shape? b = some (56, 2)) (hfz : w.frozen? ⟨b, 0, none⟩ = false) :
    Calls Tryd.prog 42 #[.pointer (some ⟨b, 0, none⟩)] w fun e w' => e = .returned (.tuple #[]) ∧ w' = w.setCell ⟨b, 0, none⟩ (.pointer (some ⟨b, 0, none⟩)) := by
  obtain ⟨j, hj, hjs⟩ := Option.map_eq_some_iff.1 Tryd.bx169.sizeBuilder
  go_enter Tryd.func42, Tryd.ntmps42
  go_wp2
  rw [Lib.run_to_unsafe w ⟨b, 0, none⟩ Tryd.underlying53 Tryd.underlying74 hj (by rw [hjs]; decide) hsh (Nat.zero_lt_succ 1)]
  simp only [Result.andThen]
  rw [Oper.upon_value]
  go_wp2
  rw [run_callFunc_extern Tryd.func53 (by kernel_rfl) (by kernel_rfl) (by kernel_rfl) (e := Extern.AbiNoEscape.same) (by kernel_rfl)]
  rw [Lib.run_noEscape]
  simp only [Result.andThen]
  rw [Oper.upon_value]
  go_wp2
  rw [Lib.run_from_unsafe w ⟨b, 0, none⟩ Tryd.underlying74 Tryd.underlying53 hj hsh Tryd.bx169.liesBuilder]
  simp only [Result.andThen]
  rw [Oper.upon_value]
  go_wp2
  go_end0
  exact ⟨rfl, rfl⟩
theorem cc_any (B b : Nat) (bs : List Value) (w : World) (h : Lib.IsBuilderF 56 5 B b bs w) :
    Calls Tryd.prog 42 #[.pointer (some ⟨b, 0, none⟩)] w fun e w' => e = .returned (.tuple #[]) ∧ Lib.BuilderAtF 56 5 B b (.pointer (some ⟨b, 0, none⟩)) bs w' ∧ Below B w w' := by
  rcases h with h | h
  · refine (cc_fresh b w h.cell0 h.shape h.frozen0).mono ?_
    rintro e w' ⟨rfl, rfl⟩
    exact ⟨rfl, h.used _, (Below.refl B w).setCell (p := ⟨b, 0, none⟩) h.1 _⟩
  · refine (cc_used b w h.cell0).mono ?_
    rintro e w' ⟨rfl, rfl⟩
    exact ⟨rfl, h, Below.refl B _⟩
theorem b_write (B b : Nat) (bs : List Value) (s : ByteArray) (w : World) (h : Lib.IsBuilderF 56 5 B b bs w) (hlen : bs.length + s.size ≤ 140737488355328) (hBw : B ≤ w.heap.size) :
    Calls Tryd.prog 36 #[.pointer (some ⟨b, 0, none⟩), .string s] w fun e w' => e = .returned (.tuple #[.int .i64 s.size, .nilIface]) ∧ Lib.IsBuilderF 56 5 B b (bs ++ Lib.strCells s) w' ∧ Below B w w' := by
  obtain ⟨i0, hi, hz0, hz1, hz2⟩ := info_parts Tryd.bx169.infoByte
  go_enter Tryd.func36, Tryd.ntmps36
  go_wp2_with (go_at_call 42; refine (cc_any B b bs _ h).mono ?_)
  rintro e w1 ⟨rfl, h1, hb1⟩
  obtain ⟨hB, v, hbk, hown, hne⟩ := h1
  have c0 : w1.cell? ⟨b, 0, none⟩ = some (.pointer (some ⟨b, 0, none⟩)) := by rw [Lib.cell_of_heap hbk]; rfl
  have c1 : w1.cell? ⟨b, 1, none⟩ = some v := by rw [Lib.cell_of_heap hbk]; rfl
  go_wp2_with (at_builtin; refine Lib.wpList_append_own_stringF _ rfl _ _ 54 9 rfl B 5 i0 Tryd.underlying54 Tryd.underlying9 hi hz0 hz1 hz2 _ _ _ rfl hown s rfl ?c3 ?c4 ?c5 ?_)
  case c3 => unfold maxLen; omega
  case c4 => omega
  case c5 => have := hb1.size; omega
  intro v' w2 hown' hgrow _
  have hlt : b < w1.heap.size := by
    rcases Nat.lt_or_ge b w1.heap.size with h' | h'
    · exact h'
    · simp [Array.getElem?_eq_none h'] at hbk
  have hb2 : w2.heap[b]? = some (.cells #[.pointer (some ⟨b, 0, none⟩), v] 56 (0, 0)) := by
    rw [hgrow.block b hlt (fun e => hne e.symm)]
    exact hbk
  have d0 : w2.cell? ⟨b, 0, none⟩ = some (.pointer (some ⟨b, 0, none⟩)) := by rw [Lib.cell_of_heap hb2]; rfl
  have d1 : w2.cell? ⟨b, 1, none⟩ = some v := by rw [Lib.cell_of_heap hb2]; rfl
  have f1 : w2.frozen? ⟨b, 1, none⟩ = false := Lib.frozen_of_heap hb2 1
  obtain ⟨ao, n', cap, rfl⟩ : ∃ ao n' cap, v' = .slice ao n' cap := by
    rcases hown'.2 with ⟨hv, _⟩ | ⟨g, cap, cur, fz, hv, _⟩
    · exact ⟨_, _, _, hv⟩
    · exact ⟨_, _, _, hv⟩
  go_wp2
  go_ret2
  refine ⟨rfl, .inr ?_, ?_⟩
  · exact Lib.BuilderAtF.put (T := 56) (e := 5) hB hb2 (bs' := bs ++ Lib.strCells s) (by simpa [Lib.strCells_length] using hown') (by decide)
  · exact (hb1.grown hgrow (by have := hb1.size; omega) (fun k hk => (hown.lt k hk).1)).setCell (p := ⟨b, 1, none⟩) hB _
theorem b_string (B b : Nat) (l : List UInt8) (w : World) (h : Lib.IsBuilderF 56 5 B b (Lib.byteCells l) w) (hBw : B ≤ w.heap.size) :
    Calls Tryd.prog 37 #[.pointer (some ⟨b, 0, none⟩)] w fun e w' => e = .returned (.string ⟨l.toArray⟩) ∧ Below B w w' :=
  (Any.Builder_String_any_k Tryd.laysString Tryd.bx169 B b l w h hBw).mono fun _ _ h => ⟨h.1, h.2.2.1⟩
theorem b_below {T e : TypeId} {B b : Nat} {bs : List Value} {W W' : World} (h : Lib.IsBuilderF T e B b bs W) (hb : Below W.heap.size W W') : Lib.IsBuilderF T e B b bs W' := by
  have key : ∀ p, Lib.BuilderAtF T e B b p bs W → Lib.BuilderAtF T e B b p bs W' := by
    intro p h
    have hlt := h.lt
    obtain ⟨h1, v, h2, h3, h4⟩ := h
    refine ⟨h1, v, (hb.block b hlt).trans h2, ?_, h4⟩
    exact h3.kept (row := none) ⟨hb.os, hb.tape, hb.output, hb.size, fun k hk _ => hb.block k hk⟩ (Classical.em _)
  exact h.elim (fun h => .inl (key _ h)) (fun h => .inr (key _ h))
def outN (e0 : List UInt8) (enc : Nat → List UInt8) : Nat → List UInt8
  | 0 => e0
  | k + 1 => outN e0 enc k ++ enc k
theorem outN_le (e0 : List UInt8) (enc : Nat → List UInt8) : ∀ {k n : Nat}, k ≤ n → (outN e0 enc k).length ≤ (outN e0 enc n).length
  | k, 0, h => by
    obtain rfl : k = 0 := by omega
    exact Nat.le_refl _
  | k, n + 1, h => by
    by_cases hk : k = n + 1
    · rw [hk]; exact Nat.le_refl _
    · have := outN_le e0 enc (k := k) (n := n) (by omega)
      rw [outN, List.length_append]; omega
def OneOf (f : FuncId) (vals : Nat → Value) (enc : Nat → List UInt8) (n : Nat) (w : World) : Prop :=
  ∀ (k : Nat) (W : World), k < n → Below w.heap.size w W → Calls Tryd.prog f #[vals k] W fun e W' => e = .returned (.string ⟨(enc k).toArray⟩) ∧ Below W.heap.size W W'
theorem write_int (p : Option Addr) (n cap : Nat) (vals : Nat → Value) (enc : Nat → List UInt8) (e0 : List UInt8) (w : World)
    (hp : ∀ k, k < n → ∃ b o, p = some ⟨b, o, none⟩ ∧ b < w.heap.size ∧ w.cell? ⟨b, o + k, none⟩ = some (vals k))
    (hone : OneOf 9 vals enc n w) (h9 : ∀ W, Below w.heap.size w W → Calls Tryd.prog 9 #[.int .i64 n] W fun e W' => e = .returned (.string ⟨e0.toArray⟩) ∧ Below W.heap.size W W')
    (hlen : (outN e0 enc n).length ≤ 140737488355328) (hn : n ≤ 1000000000) :
    Calls Tryd.prog 28 #[.slice p n cap, .func (.func 9) #[] #[]] w fun e w' => e = .returned (.string ⟨(outN e0 enc n).toArray⟩) ∧ Below w.heap.size w w' := by
  have hI0 := (Lib.IsBuilderF.of (Lib.fresh_isBuilder 56 5 w))
  have hb0 : Below w.heap.size w (w.alloc (.cells #[.pointer none, .slice none 0 0] 56)) := (Below.refl _ w).alloc (Nat.le_refl _) _
  go_enter Tryd.func28, Tryd.ntmps28
  go_wp2_with (go_at_call 9; refine (h9 _ hb0).mono ?_)
  rintro e w1 ⟨rfl, hb1⟩
  have hI1 := b_below hI0 hb1
  have hb2 := hb0.trans (hb1.mono hb0.size)
  have hle : e0.length ≤ 140737488355328 := Nat.le_trans (outN_le e0 enc (Nat.zero_le n)) hlen
  go_wp2_with (go_at_call 36; refine (b_write w.heap.size w.heap.size [] ⟨e0.toArray⟩ _ hI1 ?_ ?_).mono ?_)
  · show 0 + e0.toArray.size ≤ _
    simp; omega
  · exact hb2.size
  rintro e w2 ⟨rfl, hI2, hb3⟩
  have hb4 := hb2.trans hb3
  have hI3 : Lib.IsBuilderF 56 5 w.heap.size w.heap.size (Lib.byteCells e0) w2 := by
    have e : ([] : List Value) ++ Lib.strCells ⟨e0.toArray⟩ = Lib.byteCells e0 := rfl
    rw [e] at hI2; exact hI2
  clear hI2
  go_wp2
  go_loopw [14] (fun i wr => ∃ k : Nat, k ≤ n ∧ i = .int .i64 k ∧ Lib.IsBuilderF 56 5 w.heap.size w.heap.size (Lib.byteCells (outN e0 enc k)) wr ∧ Below w.heap.size w wr) (fun i _ => n - (Go.RowKit.intOf i).toNat)
  case atStart => exact ⟨0, Nat.zero_le _, rfl, hI3, hb4⟩
  case round =>
    obtain ⟨k, hk, rfl, hI, hb⟩ := hrel
    by_cases hlt : k < n
    · obtain ⟨b, o, rfl, hbl, hc⟩ := hp k hlt
      have hc' : wr.cell? ⟨b, o + k, none⟩ = some (vals k) := (hb.cell (p := ⟨b, o + k, none⟩) hbl).trans hc
      have h1 := hone k wr hlt hb
      have hkn : (k : Int) < n := by omega
      have hwr : IntKind.i64.wrap ((k : Int) + 1) = ((k + 1 : Nat) : Int) := by unfold IntKind.wrap; simp [IntKind.signed, IntKind.bits]; omega
      go_wp2_with (go_at_call 9; refine h1.mono ?_)
      rintro e w3 ⟨rfl, hb5⟩
      have hI5 := b_below hI hb5
      have hb6 := hb.trans (hb5.mono hb.size)
      have hsz : (outN e0 enc k).length + (enc k).length ≤ 140737488355328 := by
        have := outN_le e0 enc (k := k + 1) (n := n) (by omega)
        rw [outN, List.length_append] at this
        omega
      go_wp2_with (go_at_call 36; refine (b_write w.heap.size w.heap.size _ ⟨(enc k).toArray⟩ _ hI5 ?_ ?_).mono ?_)
      · rw [Lib.byteCells_length]
        show _ + (enc k).toArray.size ≤ _
        simpa using hsz
      · exact hb6.size
      rintro e w4 ⟨rfl, hI6, hb7⟩
      have hb8 := hb6.trans hb7
      go_wp2
      go_roundw
      case rel =>
        refine ⟨k + 1, by omega, by go_num, ?_, hb8⟩
        rw [outN, Lib.byteCells_append]
        exact hI6
      case measure => simp [Go.RowKit.intOf]; omega
    · obtain rfl : k = n := by omega
      go_wp2_with (go_at_call 37; refine (b_string w.heap.size w.heap.size (outN e0 enc k) wr hI hb.size).mono ?_; rintro e w5 ⟨rfl, hb9⟩)
      go_wp2
      go_ret
      exact ⟨rfl, hb.trans hb9⟩
theorem write_str (p : Option Addr) (n cap : Nat) (vals : Nat → Value) (enc : Nat → List UInt8) (e0 : List UInt8) (w : World)
    (hp : ∀ k, k < n → ∃ b o, p = some ⟨b, o, none⟩ ∧ b < w.heap.size ∧ w.cell? ⟨b, o + k, none⟩ = some (vals k))
    (hone : OneOf 11 vals enc n w) (h9 : ∀ W, Below w.heap.size w W → Calls Tryd.prog 9 #[.int .i64 n] W fun e W' => e = .returned (.string ⟨e0.toArray⟩) ∧ Below W.heap.size W W')
    (hlen : (outN e0 enc n).length ≤ 140737488355328) (hn : n ≤ 1000000000) :
    Calls Tryd.prog 29 #[.slice p n cap, .func (.func 11) #[] #[]] w fun e w' => e = .returned (.string ⟨(outN e0 enc n).toArray⟩) ∧ Below w.heap.size w w' := by
  have hI0 := (Lib.IsBuilderF.of (Lib.fresh_isBuilder 56 5 w))
  have hb0 : Below w.heap.size w (w.alloc (.cells #[.pointer none, .slice none 0 0] 56)) := (Below.refl _ w).alloc (Nat.le_refl _) _
  go_enter Tryd.func29, Tryd.ntmps29
  go_wp2_with (go_at_call 9; refine (h9 _ hb0).mono ?_)
  rintro e w1 ⟨rfl, hb1⟩
  have hI1 := b_below hI0 hb1
  have hb2 := hb0.trans (hb1.mono hb0.size)
  have hle : e0.length ≤ 140737488355328 := Nat.le_trans (outN_le e0 enc (Nat.zero_le n)) hlen
  go_wp2_with (go_at_call 36; refine (b_write w.heap.size w.heap.size [] ⟨e0.toArray⟩ _ hI1 ?_ ?_).mono ?_)
  · show 0 + e0.toArray.size ≤ _
    simp; omega
  · exact hb2.size
  rintro e w2 ⟨rfl, hI2, hb3⟩
  have hb4 := hb2.trans hb3
  have hI3 : Lib.IsBuilderF 56 5 w.heap.size w.heap.size (Lib.byteCells e0) w2 := by
    have e : ([] : List Value) ++ Lib.strCells ⟨e0.toArray⟩ = Lib.byteCells e0 := rfl
    rw [e] at hI2; exact hI2
  clear hI2
  go_wp2
  go_loopw [14] (fun i wr => ∃ k : Nat, k ≤ n ∧ i = .int .i64 k ∧ Lib.IsBuilderF 56 5 w.heap.size w.heap.size (Lib.byteCells (outN e0 enc k)) wr ∧ Below w.heap.size w wr) (fun i _ => n - (Go.RowKit.intOf i).toNat)
  case atStart => exact ⟨0, Nat.zero_le _, rfl, hI3, hb4⟩
  case round =>
    obtain ⟨k, hk, rfl, hI, hb⟩ := hrel
    by_cases hlt : k < n
    · obtain ⟨b, o, rfl, hbl, hc⟩ := hp k hlt
      have hc' : wr.cell? ⟨b, o + k, none⟩ = some (vals k) := (hb.cell (p := ⟨b, o + k, none⟩) hbl).trans hc
      have h1 := hone k wr hlt hb
      have hkn : (k : Int) < n := by omega
      have hwr : IntKind.i64.wrap ((k : Int) + 1) = ((k + 1 : Nat) : Int) := by unfold IntKind.wrap; simp [IntKind.signed, IntKind.bits]; omega
      go_wp2_with (go_at_call 11; refine h1.mono ?_)
      rintro e w3 ⟨rfl, hb5⟩
      have hI5 := b_below hI hb5
      have hb6 := hb.trans (hb5.mono hb.size)
      have hsz : (outN e0 enc k).length + (enc k).length ≤ 140737488355328 := by
        have := outN_le e0 enc (k := k + 1) (n := n) (by omega)
        rw [outN, List.length_append] at this
        omega
      go_wp2_with (go_at_call 36; refine (b_write w.heap.size w.heap.size _ ⟨(enc k).toArray⟩ _ hI5 ?_ ?_).mono ?_)
      · rw [Lib.byteCells_length]
        show _ + (enc k).toArray.size ≤ _
        simpa using hsz
      · exact hb6.size
      rintro e w4 ⟨rfl, hI6, hb7⟩
      have hb8 := hb6.trans hb7
      go_wp2
      go_roundw
      case rel =>
        refine ⟨k + 1, by omega, by go_num, ?_, hb8⟩
        rw [outN, Lib.byteCells_append]
        exact hI6
      case measure => simp [Go.RowKit.intOf]; omega
    · obtain rfl : k = n := by omega
      go_wp2_with (go_at_call 37; refine (b_string w.heap.size w.heap.size (outN e0 enc k) wr hI hb.size).mono ?_; rintro e w5 ⟨rfl, hb9⟩)
      go_wp2
      go_ret
      exact ⟨rfl, hb.trans hb9⟩
end Go.Proofs


set_option maxRecDepth 100000
set_option maxHeartbeats 4000000
namespace Go.Abs
open Go.Proofs Go.Wire Go.RowKit
theorem callable_at {P : Program} {f : FuncId} (h : (match P.funcs[f]? with | some fn => fn.body.isSome && !(fn.name == "runtime.NumGoroutine") | none => false) = true) : Callable P f := by
  unfold Callable
  cases hf : P.funcs[f]? with
  | none => rw [hf] at h; simp at h
  | some fn => rw [hf] at h; simp only [Bool.and_eq_true, Bool.not_eq_true'] at h; exact ⟨fn, rfl, h.1, h.2⟩
theorem kept_of_below {w w' : World} (h : Below w.heap.size w w') : Kept w w' := ⟨h.os, h.tape, h.output, h.size, h.block⟩
theorem below_of_kept {w w' : World} (h : Kept w w') : Below w.heap.size w w' := ⟨h.os, h.tape, h.output, h.size, h.block⟩
theorem tab_of {w : World} (hG : GlobB (base w)) : Go.Lib.TabIs Tryd.prog w "internal/strconv.uint64pow10" .u64 Go.Lib.pow10Tab := by
  obtain ⟨_, b, hb, hp⟩ := hG.2 3 _ rfl
  have hn : Tryd.prog.globalNamed "internal/strconv.uint64pow10" = some 3 := by kernel_rfl
  unfold Go.Lib.TabIs World.var?
  rw [hn, Option.bind_some]
  have hb' : w.heap[3]? = some b := hb
  rw [hb']
  cases b with
  | cells cs t f =>
    have e : cs = _ := hp
    simp only [e]
    rfl
  | _ => exact hp.elim
theorem cell_of {w : World} {g : Nat} {p : Value → Prop} (hG : GlobB (base w)) (h : globObj g = some (cell0 p)) : ∃ v, w.cell? ⟨g, 0, none⟩ = some v ∧ p v := by
  obtain ⟨_, b, hb, hp⟩ := hG.2 g _ h
  have hb' : w.heap[g]? = some b := hb
  cases b with
  | cells cs t f =>
    obtain ⟨v, h1, h2⟩ := hp
    exact ⟨v, by simp only [World.cell?, hb']; exact h1, h2⟩
  | _ => exact hp.elim
theorem w27 (n : Int) (h : inI n) : Spec Tryd.prog 27 [.int .i64 n] (fun r => r = .str (Go.Lib.itoa n)) :=
  itoa_spec Tryd.laysItoa (callable_at (by kernel_rfl)) (fun w hG => tab_of hG) n h.1 h.2
theorem riV_rep (s : Txt) (w : World) (Z : Bk → Prop) : VRep w Z (fun _ => none) (fun _ => none) (resI (rI s)) (riV s) := by
  unfold riV resI
  cases rI s with
  | none => exact ⟨_, rfl, rfl, ⟨rfl, .int _ _⟩, ⟨rfl, .str _⟩, ⟨rfl, .bool _⟩, trivial⟩
  | some p => exact ⟨_, rfl, rfl, ⟨rfl, .int _ _⟩, ⟨rfl, .str _⟩, ⟨rfl, .bool _⟩, trivial⟩
theorem resI_plain (r : Option (Int × Txt)) : (∀ n, (resI r).reg n = (resI r, [])) ∧ ∀ τ, (resI r).noRef τ = true := by
  unfold resI
  split <;> exact ⟨fun _ => rfl, fun _ => rfl⟩
theorem w17 (s : Txt) : Spec Tryd.prog 17 [.str s] (fun r => r = resI (rI s)) := by
  refine ⟨callable_at (by kernel_rfl), fun w Z vs hG hz ha => ?_⟩
  obtain ⟨l⟩ := vs
  match l, ha with
  | [], ha => exact absurd ha.1 (by simp)
  | _ :: _ :: _, ha => exact absurd ha.1 (by simp)
  | [v1], ha =>
    have e1 := prep_str (ha.2 0 _ v1 rfl rfl).2.2
    subst e1
    obtain ⟨_, h0, m, rfl⟩ := cell_of hG (g := 0) rfl
    obtain ⟨ev1, h1, he1⟩ := cell_of hG (g := 1) rfl
    obtain ⟨ev2, h2, he2⟩ := cell_of hG (g := 2) rfl
    refine (readInt ⟨s.toArray⟩ m w h0 (fun w' hb => tab_of (hG.later (kept_of_below hb))) ev1 ev2 h1 he1 h2 he2).mono ?_
    rintro e w' ⟨rfl, hb⟩
    have he : (⟨s.toArray⟩ : ByteArray).data.toList = s := rfl
    rw [he]
    exact ⟨_, _, rfl, rfl, (resI_plain _).2, rrep_pure hG (kept_of_below hb) (resI_plain _).1 (fun Z => riV_rep s _ Z)⟩
theorem Spec.call_str {f : FuncId} {x : V} {v : Value} {t : Txt} (h : Spec Tryd.prog f [x] (fun r => r = .str t)) {W : World} (hG : GlobB (base W)) (hx : x.isPure = true) (hv : VRep W (fun b => b.2 < W.heap.size) (fun _ => none) (fun _ => none) x v) :
    Calls Tryd.prog f #[v] W fun e W' => e = .returned (.string ⟨t.toArray⟩) ∧ Below W.heap.size W W' := by
  refine (h.2 W (fun b => b.2 < W.heap.size) #[v] hG (fun _ h => h) ⟨rfl, fun j y u hy hu => ?_⟩).mono ?_
  · cases j with
    | zero => simp at hy hu; subst hy; subst hu; exact ⟨hx, hv⟩
    | succ j => simp at hy
  · rintro e w' ⟨v, r, rfl, rfl, _, hrep⟩
    obtain ⟨κ, hi⟩ := hrep 0
    refine ⟨?_, below_of_kept hi.kept⟩
    have := hi.tmps 0
    simp only [if_pos, V.reg] at this
    have e3 : (#[v] : Array Value).getD 0 undef = v := rfl
    rw [e3] at this
    rw [prep_str this.2]
theorem slice1 {w : World} {Z : Bk → Prop} {rows : List (List C)} {v : Value} (h : PRep w Z (lstC 1 rows) v) :
    ∃ p cap, v = .slice p rows.length cap ∧ ∀ k, k < rows.length → ∃ b o, p = some ⟨b, o, none⟩ ∧ Z (1, b) ∧ ∀ c, rows[k]? = some [c] → ∃ u, w.cell? ⟨b, o + k, none⟩ = some u ∧ PRep w Z c u := by
  unfold lstC at h
  by_cases h0 : rows = []
  · subst h0
    have h' : PRep w Z (.list 0 none []) v := h
    generalize hc : C.list 0 none [] = c at h'
    cases h' with
    | nil => exact ⟨none, 0, rfl, fun k hk => absurd hk (by simp)⟩
    | emp _ _ a => exact ⟨some a, 0, rfl, fun k hk => absurd hk (by simp)⟩
    | list b o cap sz nl rws val =>
      injection hc with _ _ hr
      subst hr
      exact ⟨some ⟨b, o, none⟩, cap, rfl, fun k hk => absurd hk (by simp)⟩
    | _ => cases hc
  · have e : (if rows.isEmpty = true then 0 else 1) = 1 := by cases rows <;> simp_all
    rw [e] at h
    generalize hc : C.list 1 none rows = c at h
    cases h with
    | nil => injection hc with _ _ hr; exact absurd hr h0
    | emp => injection hc with _ _ hr; exact absurd hr h0
    | list b o cap sz nl rws val h1 h2 h3 h4 h5 h6 h7 =>
      injection hc with hs _ hr
      subst hs hr
      refine ⟨some ⟨b, o, none⟩, cap, rfl, fun k hk => ⟨b, o, rfl, h4 h0, fun c hkc => ?_⟩⟩
      have g1 := h6 k 0 [c] c hkc rfl
      have g2 := h7 k 0 [c] c hkc rfl
      rw [Nat.mul_one, Nat.add_zero] at g1
      exact ⟨_, g1, g2⟩
    | _ => cases hc
theorem outN_w {α : Type} (w : α → Txt) (d : α) (l : List α) (e0 : Txt) : ∀ k, k ≤ l.length → outN e0 (fun i => w (l.getD i d)) k = e0 ++ wN w (l.take k)
  | 0, _ => by simp [outN, wN]
  | k + 1, h => by
    have hk : k < l.length := by omega
    rw [outN, outN_w w d l e0 k (by omega), wN_snoc w l hk, List.append_assoc]
    simp [hk]
theorem w9 (n : Int) (h : inI n) : Spec Tryd.prog 9 [.int .i64 n] (fun r => r = .str (wI n)) := by
  refine Spec.of_awlS hf9 okf9 (by simp) fun S hS => ?_
  simp only [Qs, Nat.reduceBEq, uu f9.eq_1, id @f9r1.eq_1, uu f9b2.eq_1, id @f9r3.eq_1, uu f9b4.eq_1]
  refine call_s (w27 n h) ?_
  simp only [Qs, List.nodup_nil, Nat.reduceLeDiff]
  exact ⟨by have := itoa_len h; omega, hS⟩
theorem w11 (s : Txt) (hs : s.length ≤ 1000000000000) : Spec Tryd.prog 11 [.str s] (fun r => r = .str (wS s)) := by
  have h0 : inI (s.length : Int) := ⟨by omega, by omega⟩
  have h1 := wI_le h0
  refine Spec.of_awlS hf11 okf11 (by simp) fun S hS => ?_
  simp only [Qs, Nat.reduceBEq, uu f11.eq_1, id @f11r1.eq_1, uu f11b2.eq_1, id @f11r3.eq_1, uu f11b4.eq_1]
  refine call_s (w9 s.length h0) ?_
  have c : (wI s.length).length + s.length ≤ 9223372036854775807 := by omega
  simp only [c, Qs, List.nodup_nil, Nat.reduceBEq]
  exact hS
theorem arg2 {w : World} {Z : Bk → Prop} {a b : V} {vs : Array Value} (ha : ARep w Z [a, b] vs.toList) : ∃ v1 v2, vs = #[v1, v2] ∧ VRep w Z (fun _ => none) (fun _ => none) a v1 ∧ VRep w Z (fun _ => none) (fun _ => none) b v2 := by
  obtain ⟨l⟩ := vs
  match l, ha with
  | [], ha => exact absurd ha.1 (by simp)
  | [_], ha => exact absurd ha.1 (by simp)
  | _ :: _ :: _ :: _, ha => exact absurd ha.1 (by simp)
  | [v1, v2], ha => exact ⟨v1, v2, rfl, (ha.2 0 _ v1 rfl rfl).2, (ha.2 1 _ v2 rfl rfl).2⟩
theorem prep_fn0 {w : World} {Z : Bk → Prop} {f : FuncId} {v : Value} (h : PRep w Z (.fn f []) v) : v = .func (.func f) #[] #[] := by
  generalize hc : C.fn f [] = c at h
  cases h with
  | fn g caps vs val h1 =>
    injection hc with e1 e2
    subst e1 e2
    have : vs = #[] := Array.eq_empty_of_size_eq_zero h1
    rw [this]
  | _ => cases hc
theorem w28 (l : List Int) (h : okIs l) : Spec Tryd.prog 28 [lst 1 (ints l), .k (.c (.fn 9 []))] (fun r => r = .str (wL wI l)) := by
  obtain ⟨hl, hi⟩ := h
  have h0 : inI (l.length : Int) := ⟨by omega, by omega⟩
  refine ⟨callable_at (by kernel_rfl), fun w Z vs hG hz ha => ?_⟩
  obtain ⟨v1, v2, rfl, g1, g2⟩ := arg2 ha
  obtain rfl := prep_fn0 g2.2
  obtain ⟨p, cap, rfl, hp⟩ := slice1 g1.2
  have hout := outN_w wI 0 l (wI l.length) l.length (Nat.le_refl _)
  rw [List.take_length] at hout
  have hwl : wL wI l = wI l.length ++ wN wI l := rfl
  have hle : (outN (wI l.length) (fun i => wI (l.getD i 0)) l.length).length ≤ 140737488355328 := by
    rw [hout, List.length_append]
    have := wN_leI hi
    have := wI_le h0
    omega
  rw [ints_len] at hp ⊢
  refine (write_int p l.length cap (fun k => .int .i64 (l.getD k 0)) (fun k => wI (l.getD k 0)) (wI l.length) w (fun k hk => ?_) (fun k W hk hb => ?_) (fun W hb => ?_) hle (by omega)).mono ?_
  · obtain ⟨b, o, e, hZ, hc⟩ := hp k hk
    obtain ⟨u, hu, hr⟩ := hc (.int .i64 (l.getD k 0)) (by simp [ints, hk])
    refine ⟨b, o, e, hz _ hZ, ?_⟩
    rw [hu, prep_int hr]
  · have hm : inI (l.getD k 0) := by simp [hk]; exact hi _ (List.getElem_mem hk)
    exact (w9 _ hm).call_str (hG.later (kept_of_below hb)) rfl ⟨rfl, .int _ _⟩
  · exact (w9 _ h0).call_str (hG.later (kept_of_below hb)) rfl ⟨rfl, .int _ _⟩
  · rintro e w' ⟨rfl, hb⟩
    rw [hout, ← hwl]
    exact ⟨_, _, rfl, rfl, fun _ => rfl, rrep_pure hG (kept_of_below hb) (fun _ => rfl) (fun _ => ⟨rfl, .str _⟩)⟩
theorem w29 (l : List Txt) (h : okSs l) : Spec Tryd.prog 29 [lst 1 (strs l), .k (.c (.fn 11 []))] (fun r => r = .str (wL wS l)) := by
  unfold okSs at h
  have hl := bk_len l
  have h0 : inI (l.length : Int) := ⟨by omega, by omega⟩
  refine ⟨callable_at (by kernel_rfl), fun w Z vs hG hz ha => ?_⟩
  obtain ⟨v1, v2, rfl, g1, g2⟩ := arg2 ha
  obtain rfl := prep_fn0 g2.2
  obtain ⟨p, cap, rfl, hp⟩ := slice1 g1.2
  have hout := outN_w wS [] l (wI l.length) l.length (Nat.le_refl _)
  rw [List.take_length] at hout
  have hwl : wL wS l = wI l.length ++ wN wS l := rfl
  have hle : (outN (wI l.length) (fun i => wS (l.getD i [])) l.length).length ≤ 140737488355328 := by
    rw [hout, List.length_append]
    have := wN_leS h
    have := wI_le h0
    omega
  rw [strs_len] at hp ⊢
  refine (write_str p l.length cap (fun k => .string ⟨(l.getD k []).toArray⟩) (fun k => wS (l.getD k [])) (wI l.length) w (fun k hk => ?_) (fun k W hk hb => ?_) (fun W hb => ?_) hle (by omega)).mono ?_
  · obtain ⟨b, o, e, hZ, hc⟩ := hp k hk
    obtain ⟨u, hu, hr⟩ := hc (.str (l.getD k [])) (by simp [strs, encS, hk])
    refine ⟨b, o, e, hz _ hZ, ?_⟩
    rw [hu, prep_str hr]
  · have hm : (l.getD k []).length ≤ 1000000000000 := by
      simp [hk]
      have := bk_mem (List.getElem_mem hk)
      omega
    exact (w11 _ hm).call_str (hG.later (kept_of_below hb)) rfl ⟨rfl, .str _⟩
  · exact (w9 _ h0).call_str (hG.later (kept_of_below hb)) rfl ⟨rfl, .int _ _⟩
  · rintro e w' ⟨rfl, hb⟩
    rw [hout, ← hwl]
    exact ⟨_, _, rfl, rfl, fun _ => rfl, rrep_pure hG (kept_of_below hb) (fun _ => rfl) (fun _ => ⟨rfl, .str _⟩)⟩
theorem w13 (l : List Int) (h : okIs l) : Spec Tryd.prog 13 [lst 1 (ints l)] (fun r => r = .str (wL wI l)) := by
  refine Spec.of_awlS hf13 okf13 (by simp) fun S hS => ?_
  simp only [Qs, Nat.reduceBEq, uu f13.eq_1, id @f13r1.eq_1, uu f13b2.eq_1, id @f13r3.eq_1, uu f13b4.eq_1]
  refine call_s (w28 l h) ?_
  simp only [Qs, List.nodup_nil]
  exact hS
theorem w15 (l : List Txt) (h : okSs l) : Spec Tryd.prog 15 [lst 1 (strs l)] (fun r => r = .str (wL wS l)) := by
  refine Spec.of_awlS hf15 okf15 (by simp) fun S hS => ?_
  simp only [Qs, Nat.reduceBEq, uu f15.eq_1, id @f15r1.eq_1, uu f15b2.eq_1, id @f15r3.eq_1, uu f15b4.eq_1]
  refine call_s (w29 l h) ?_
  simp only [Qs, List.nodup_nil]
  exact hS
end Go.Abs


set_option maxRecDepth 100000
set_option maxHeartbeats 4000000
namespace Go.Abs
open Go.Proofs Go.Wire
theorem w19 (s : Txt) (hs : s.length ≤ 1000000000000) : Spec Tryd.prog 19 [.str s] (fun r => r = resS (rS s)) := by
  refine Spec.of_awlS hf19 okf19 (by simp) fun S hS => ?_
  unfold rS at hS
  simp only [Qs, Nat.reduceBEq, uu f19.eq_1, id @f19r9.eq_1, uu f19b10.eq_1, id @f19r11.eq_1, uu f19b12.eq_1]
  refine call_s (w17 s) ?_ (hr := resI_scalar _)
  cases h : rI s with
  | none =>
    rw [h] at hS
    simp only [resI, Qs, List.append_nil, List.nodup_nil, Nat.reduceBEq, id @f19r3.eq_1, uu f19b4.eq_1, uu f19b5.eq_1, id @f19r6.eq_1, uu f19b7.eq_1, uu f19b8.eq_1]
    exact hS
  | some p =>
    obtain ⟨n, r⟩ := p
    have hr := rI_len h
    rw [h] at hS
    simp only [Option.bind_some] at hS
    by_cases hn : n < 0
    · rw [if_pos (.inl hn)] at hS
      simp only [resI, hn, Qs, if_true, if_false, List.append_nil, List.nodup_nil, Nat.reduceBEq, id @f19r3.eq_1, uu f19b4.eq_1, uu f19b5.eq_1, id @f19r6.eq_1, uu f19b7.eq_1, uu f19b8.eq_1]
      exact hS
    · by_cases hl : n > r.length
      · rw [if_pos (.inr hl)] at hS
        simp only [resI, hn, hl, Qs, if_true, if_false, List.append_nil, List.nodup_nil, Nat.reduceBEq, id @f19r3.eq_1, uu f19b4.eq_1, uu f19b5.eq_1, id @f19r6.eq_1, uu f19b7.eq_1, uu f19b8.eq_1]
        exact hS
      · rw [if_neg (fun h => h.elim hn hl)] at hS
        have b1 : (0 : Int) ≤ n := by omega
        have b2 : n ≤ r.length := by omega
        simp only [resI, hn, hl, b1, b2, Qs, if_true, if_false, List.append_nil, List.nodup_nil, Nat.reduceBEq, Int.reduceLE, id @f19r1.eq_1, uu f19b2.eq_1, uu f19b5.eq_1, id @f19r6.eq_1, uu f19b7.eq_1, uu f19b8.eq_1]
        rw [List.take_length]
        exact ⟨Int.le_refl _, hS⟩
theorem w33 (s : Txt) (hs : s.length ≤ 100000000) : Spec Tryd.prog 33 [.str s, .k (.c (.fn 17 []))] (fun r => r = resLs ints (rL rI s)) := by
  refine Spec.of_awlP hf33 okf33 (by simp) fun S hS => ?_
  unfold rL at hS
  simp only [Qs, Nat.reduceAdd, Nat.reduceBEq, uu f33.eq_1, id @f33r32.eq_1, uu f33b33.eq_1, id @f33r34.eq_1, uu f33b35.eq_1]
  refine call_s (w17 s) ?_ (hr := resI_scalar _)
  cases h : rI s with
  | none =>
    rw [h] at hS
    simp only [resI, Qs, if_true, BEq.rfl, List.append_nil, List.nodup_nil, List.nodup_cons, Nat.reduceBEq, List.not_mem_nil, id @f33r26.eq_1, uu f33b27.eq_1, uu f33b28.eq_1, id @f33r29.eq_1, uu f33b30.eq_1, uu f33b31.eq_1]
    exact fin_L hS rfl
  | some p =>
    obtain ⟨n, r⟩ := p
    have hr := rI_len h
    rw [h] at hS
    simp only [Option.bind_some] at hS
    by_cases hn : n < 0
    · rw [if_pos (.inl hn)] at hS
      simp only [resI, hn, Qs, if_true, if_false, BEq.rfl, List.append_nil, List.nodup_nil, List.nodup_cons, Nat.reduceBEq, List.not_mem_nil, id @f33r26.eq_1, uu f33b27.eq_1, uu f33b28.eq_1, id @f33r29.eq_1, uu f33b30.eq_1, uu f33b31.eq_1]
      exact fin_L hS rfl
    have hq : IntKind.i64.wrap ((r.length : Int).tdiv 2) = ((r.length / 2 : Nat) : Int) := by
      rw [show (r.length : Int).tdiv 2 = ((r.length / 2 : Nat) : Int) from rfl]
      exact wrap_in (by omega) (by omega)
    by_cases hl : n > ((r.length / 2 : Nat) : Int)
    · rw [if_pos (.inr hl)] at hS
      simp only [resI, hn, hq, hl, Qs, if_true, if_false, ne_eq, BEq.rfl, List.append_nil, List.nodup_nil, List.nodup_cons, Nat.reduceBEq, Int.reduceEq, List.not_mem_nil, id @f33r26.eq_1, uu f33b27.eq_1, uu f33b28.eq_1, id @f33r29.eq_1, uu f33b30.eq_1, uu f33b31.eq_1]
      exact fin_L hS rfl
    rw [if_neg (fun h => h.elim hn hl)] at hS
    obtain ⟨k, rfl⟩ : ∃ k : Nat, n = k := ⟨n.toNat, by omega⟩
    rw [Int.toNat_natCast] at hS
    simp only [resI, hn, hq, hl, Qs, if_true, if_false, bne_iff_ne, ne_eq, Nat.reduceEqDiff, Nat.reduceBEq, Int.reduceEq, Int.reduceLE, uu f33b20.eq_1, id @f33r21.eq_1, uu f33b22.eq_1, uu f33b23.eq_1, id @f33r24.eq_1, uu f33b25.eq_1, uu f33b28.eq_1, id @f33r29.eq_1, uu f33b30.eq_1, uu f33b31.eq_1]
    refine ⟨by omega, by omega, ?_⟩
    rw [uf33l19]
    refine awl_loop (fun x : Nat × Txt × List Int => [(1, .k (.c (.fn 17 []))), (8, .str x.2.1), (10, .k (.own 34)), (35, .int .i64 (k : Int)), (36, .int .i64 x.1)]) (fun x => [(34, .arr 3 1 (some false) (ints x.2.2))])
      (fun x => x.1 ≤ k ∧ x.2.2.length = x.1 ∧ x.2.1.length ≤ s.length ∧ after x.2.2 (rN rI (k - x.1) x.2.1) = rN rI k r) (fun x => k - x.1) (0, r, []) rfl rfl ⟨Nat.zero_le _, rfl, hr, after_nil _⟩ ?_
    rintro ⟨i, q, acc⟩ ⟨g1, g2, g3, g4⟩
    simp only [] at g1 g2 g3 g4
    by_cases hlt : i < k
    · have c1 : (i : Int) < (k : Int) := by omega
      have c4 : IntKind.i64.wrap ((i : Int) + 1) = ((i + 1 : Nat) : Int) := by rw [wrap_in (by omega) (by omega)]; rfl
      rw [show k - i = (k - (i + 1)) + 1 by omega, rN_succ] at g4
      simp only [c1, Qs, if_true, Nat.reduceBEq, id @f33r3.eq_1, id @f33r11.eq_1, uu f33b12.eq_1, uu f33b13.eq_1, uu f33b14.eq_1, uu f33b15.eq_1, uu f33b16.eq_1, id @f33r17.eq_1, uu f33b18.eq_1]
      refine call_c (w17 q) ?_ (hr := resI_scalar _)
      cases h2 : rI q with
      | none =>
        rw [h2] at g4
        simp only [] at g4
        rw [← g4] at hS
        simp only [resI, Qs, if_true, bne_iff_ne, ne_eq, List.append_nil, List.nodup_nil, List.nodup_cons, Nat.reduceEqDiff, Nat.reduceBEq, List.not_mem_nil, id @f33r4.eq_1, id @f33r5.eq_1, uu f33b6.eq_1, uu f33b7.eq_1, id @f33r8.eq_1, uu f33b9.eq_1, uu f33b10.eq_1]
        exact fin_L hS rfl
      | some p =>
        obtain ⟨x, q'⟩ := p
        have hq2 := rI_len h2
        rw [h2] at g4
        simp only [] at g4
        have hsl := ints_len acc
        simp only [resI, c4, Qs, if_true, if_false, forall_eq, bne_iff_ne, ne_eq, List.mem_cons, Nat.reduceEqDiff, Nat.reduceLeDiff, Nat.reduceLT, Nat.reduceBEq, List.not_mem_nil, id @f33r4.eq_1, uu f33b7.eq_1, id @f33r8.eq_1, uu f33b9.eq_1, uu f33b10.eq_1]
        refine ⟨by omega, by omega, Next.intro (i + 1, q', acc ++ [x]) rfl ?_ ⟨by simp only []; omega, by simp [g2], by simp only []; omega, g4⟩ (by simp only []; omega)⟩
        rw [← ints_snoc]; rfl
    · have c1 : ¬ (i : Int) < (k : Int) := by omega
      simp only [c1, Qs, if_true, List.append_nil, List.nodup_nil, List.nodup_cons, Nat.reduceBEq, List.not_mem_nil, id @f33r1.eq_1, uu f33b2.eq_1, uu f33b15.eq_1, uu f33b16.eq_1, id @f33r17.eq_1, uu f33b18.eq_1]
      rw [show k - i = 0 by omega, rN] at g4
      rw [← g4] at hS
      exact fin_L hS (by simp [after, resLs])
theorem w34 (s : Txt) (hs : s.length ≤ 100000000) : Spec Tryd.prog 34 [.str s, .k (.c (.fn 19 []))] (fun r => r = resLs strs (rL rS s)) := by
  refine Spec.of_awlP hf34 okf34 (by simp) fun S hS => ?_
  unfold rL at hS
  simp only [Qs, Nat.reduceAdd, Nat.reduceBEq, uu f34.eq_1, id @f34r32.eq_1, uu f34b33.eq_1, id @f34r34.eq_1, uu f34b35.eq_1]
  refine call_s (w17 s) ?_ (hr := resI_scalar _)
  cases h : rI s with
  | none =>
    rw [h] at hS
    simp only [resI, Qs, if_true, BEq.rfl, List.append_nil, List.nodup_nil, List.nodup_cons, Nat.reduceBEq, List.not_mem_nil, id @f34r26.eq_1, uu f34b27.eq_1, uu f34b28.eq_1, id @f34r29.eq_1, uu f34b30.eq_1, uu f34b31.eq_1]
    exact fin_L hS rfl
  | some p =>
    obtain ⟨n, r⟩ := p
    have hr := rI_len h
    rw [h] at hS
    simp only [Option.bind_some] at hS
    by_cases hn : n < 0
    · rw [if_pos (.inl hn)] at hS
      simp only [resI, hn, Qs, if_true, if_false, BEq.rfl, List.append_nil, List.nodup_nil, List.nodup_cons, Nat.reduceBEq, List.not_mem_nil, id @f34r26.eq_1, uu f34b27.eq_1, uu f34b28.eq_1, id @f34r29.eq_1, uu f34b30.eq_1, uu f34b31.eq_1]
      exact fin_L hS rfl
    have hq : IntKind.i64.wrap ((r.length : Int).tdiv 2) = ((r.length / 2 : Nat) : Int) := by
      rw [show (r.length : Int).tdiv 2 = ((r.length / 2 : Nat) : Int) from rfl]
      exact wrap_in (by omega) (by omega)
    by_cases hl : n > ((r.length / 2 : Nat) : Int)
    · rw [if_pos (.inr hl)] at hS
      simp only [resI, hn, hq, hl, Qs, if_true, if_false, ne_eq, BEq.rfl, List.append_nil, List.nodup_nil, List.nodup_cons, Nat.reduceBEq, Int.reduceEq, List.not_mem_nil, id @f34r26.eq_1, uu f34b27.eq_1, uu f34b28.eq_1, id @f34r29.eq_1, uu f34b30.eq_1, uu f34b31.eq_1]
      exact fin_L hS rfl
    rw [if_neg (fun h => h.elim hn hl)] at hS
    obtain ⟨k, rfl⟩ : ∃ k : Nat, n = k := ⟨n.toNat, by omega⟩
    rw [Int.toNat_natCast] at hS
    simp only [resI, hn, hq, hl, Qs, if_true, if_false, bne_iff_ne, ne_eq, Nat.reduceEqDiff, Nat.reduceBEq, Int.reduceEq, Int.reduceLE, uu f34b20.eq_1, id @f34r21.eq_1, uu f34b22.eq_1, uu f34b23.eq_1, id @f34r24.eq_1, uu f34b25.eq_1, uu f34b28.eq_1, id @f34r29.eq_1, uu f34b30.eq_1, uu f34b31.eq_1]
    refine ⟨by omega, by omega, ?_⟩
    rw [uf34l19]
    refine awl_loop (fun x : Nat × Txt × List Txt => [(1, .k (.c (.fn 19 []))), (8, .str x.2.1), (10, .k (.own 34)), (35, .int .i64 (k : Int)), (36, .int .i64 x.1)]) (fun x => [(34, .arr 9 1 (some false) (strs x.2.2))])
      (fun x => x.1 ≤ k ∧ x.2.2.length = x.1 ∧ x.2.1.length ≤ s.length ∧ after x.2.2 (rN rS (k - x.1) x.2.1) = rN rS k r) (fun x => k - x.1) (0, r, []) rfl rfl ⟨Nat.zero_le _, rfl, hr, after_nil _⟩ ?_
    rintro ⟨i, q, acc⟩ ⟨g1, g2, g3, g4⟩
    simp only [] at g1 g2 g3 g4
    by_cases hlt : i < k
    · have c1 : (i : Int) < (k : Int) := by omega
      have c4 : IntKind.i64.wrap ((i : Int) + 1) = ((i + 1 : Nat) : Int) := by rw [wrap_in (by omega) (by omega)]; rfl
      rw [show k - i = (k - (i + 1)) + 1 by omega, rN_succ] at g4
      simp only [c1, Qs, if_true, Nat.reduceBEq, id @f34r3.eq_1, id @f34r11.eq_1, uu f34b12.eq_1, uu f34b13.eq_1, uu f34b14.eq_1, uu f34b15.eq_1, uu f34b16.eq_1, id @f34r17.eq_1, uu f34b18.eq_1]
      refine call_c (w19 q (by omega)) ?_ (hr := resS_scalar _)
      cases h2 : rS q with
      | none =>
        rw [h2] at g4
        simp only [] at g4
        rw [← g4] at hS
        simp only [resS, Qs, if_true, bne_iff_ne, ne_eq, List.append_nil, List.nodup_nil, List.nodup_cons, Nat.reduceEqDiff, Nat.reduceBEq, List.not_mem_nil, id @f34r4.eq_1, id @f34r5.eq_1, uu f34b6.eq_1, uu f34b7.eq_1, id @f34r8.eq_1, uu f34b9.eq_1, uu f34b10.eq_1]
        exact fin_L hS rfl
      | some p =>
        obtain ⟨x, q'⟩ := p
        have hq2 := rS_len h2
        rw [h2] at g4
        simp only [] at g4
        have hsl := strs_len acc
        simp only [resS, c4, Qs, if_true, if_false, forall_eq, bne_iff_ne, ne_eq, List.mem_cons, Nat.reduceEqDiff, Nat.reduceLeDiff, Nat.reduceLT, Nat.reduceBEq, List.not_mem_nil, id @f34r4.eq_1, uu f34b7.eq_1, id @f34r8.eq_1, uu f34b9.eq_1, uu f34b10.eq_1]
        refine ⟨by omega, by omega, Next.intro (i + 1, q', acc ++ [x]) rfl ?_ ⟨by simp only []; omega, by simp [g2], by simp only []; omega, g4⟩ (by simp only []; omega)⟩
        rw [← strs_snoc]; rfl
    · have c1 : ¬ (i : Int) < (k : Int) := by omega
      simp only [c1, Qs, if_true, List.append_nil, List.nodup_nil, List.nodup_cons, Nat.reduceBEq, List.not_mem_nil, id @f34r1.eq_1, uu f34b2.eq_1, uu f34b15.eq_1, uu f34b16.eq_1, id @f34r17.eq_1, uu f34b18.eq_1]
      rw [show k - i = 0 by omega, rN] at g4
      rw [← g4] at hS
      exact fin_L hS (by simp [after, resLs])
theorem resLs_tup {α : Type} (rows : List α → List (List C)) (r : Option (List α × Txt)) : (resLs rows r).scalar = false := by
  unfold resLs; split <;> rfl
theorem fin_T {S : V → Prop} {X : V} (h : ∀ r, r.fz.nrm = X → S r) {rows : List (List C)} (hn : C.normRows rows = rows) {t : Txt} {b : Bool} (hX : X = .tup [lst 1 rows, .str t, .bool b]) : S (.tup [.k (.c (lstC 1 rows)), .k (.c (.str t)), .k (.c (.bool b))]) := by
  refine h _ ?_
  simp only [V.fz, V.fzL, V.nrm, V.nrmL, Abs.K.fz, Abs.K.nrm, norm_lst, norm_str, norm_bool, hX, hn]
theorem w21 (s : Txt) (hs : s.length ≤ 100000000) : Spec Tryd.prog 21 [.str s] (fun r => r = resLs ints (rL rI s)) := by
  refine Spec.of_awlP hf21 okf21 (by simp) fun S hS => ?_
  simp only [Qs, Nat.reduceBEq, uu f21.eq_1, id @f21r1.eq_1, uu f21b2.eq_1, id @f21r3.eq_1, uu f21b4.eq_1]
  refine call_r (w33 s hs) ?_ (hr := resLs_tup _ _)
  cases h : rL rI s with
  | none =>
    rw [h] at hS
    simp only [resLs, Qs, List.append_nil, List.nodup_nil, Nat.reduceAdd, Nat.reduceMul, Nat.reduceBEq]
    exact fin_T hS (normRows_ints _) rfl
  | some p =>
    obtain ⟨l, r⟩ := p
    rw [h] at hS
    simp only [resLs, Qs, List.append_nil, List.nodup_nil, Nat.reduceAdd, Nat.reduceMul, Nat.reduceBEq]
    exact fin_T hS (normRows_ints _) rfl
theorem w24 (s : Txt) (hs : s.length ≤ 100000000) : Spec Tryd.prog 24 [.str s] (fun r => r = resLs strs (rL rS s)) := by
  refine Spec.of_awlP hf24 okf24 (by simp) fun S hS => ?_
  simp only [Qs, Nat.reduceBEq, uu f24.eq_1, id @f24r1.eq_1, uu f24b2.eq_1, id @f24r3.eq_1, uu f24b4.eq_1]
  refine call_r (w34 s hs) ?_ (hr := resLs_tup _ _)
  cases h : rL rS s with
  | none =>
    rw [h] at hS
    simp only [resLs, Qs, List.append_nil, List.nodup_nil, Nat.reduceAdd, Nat.reduceMul, Nat.reduceBEq]
    exact fin_T hS (normRows_strs _) rfl
  | some p =>
    obtain ⟨l, r⟩ := p
    rw [h] at hS
    simp only [resLs, normRows_strs, Qs, List.append_nil, List.nodup_nil, Nat.reduceAdd, Nat.reduceMul, Nat.reduceBEq]
    exact fin_T hS (normRows_strs _) rfl
end Go.Abs


set_option maxRecDepth 100000
set_option maxHeartbeats 4000000
namespace Go.Abs
open Go.Proofs Go.Wire
theorem e1 : wL wI [4, 0] = [50, 59, 52, 59, 48, 59] := by kernel_rfl
theorem e2 : wL wS [[], [120]] = [50, 59, 48, 59, 49, 59, 120] := by kernel_rfl
theorem e3 : rI [45, 48, 59] = none := by kernel_rfl
theorem e4 : rI [57, 50, 50, 51, 51, 55, 50, 48, 51, 54, 56, 53, 52, 55, 55, 53, 56, 48, 56, 59] = none := by kernel_rfl
theorem e5 : rI [45, 57, 50, 50, 51, 51, 55, 50, 48, 51, 54, 56, 53, 52, 55, 55, 53, 56, 48, 56, 59] = some (-9223372036854775808, []) := by kernel_rfl
theorem e6 : wI (-7) = [45, 55, 59] := by kernel_rfl
theorem e7 : wS [97, 98, 59] = [51, 59, 97, 98, 59] := by kernel_rfl
theorem e8 : rL rI [50, 59, 52, 59, 48, 59, 120] = some ([4, 0], [120]) := by kernel_rfl
theorem e9 : rL rS [50, 59, 48, 59, 49, 59, 120] = some ([[], [120]], []) := by kernel_rfl
theorem w8 : Spec Tryd.prog 8 [] (fun r => r = .bool true) := by
  refine Spec.of_awlS hf8 okf8 (by simp) fun S hS => ?_
  simp only [Qs, uu f8.eq_1, id @f8r17.eq_1, uu f8b18.eq_1, id @f8r19.eq_1, uu f8b20.eq_1]
  refine call_r (w21 [50, 59, 52, 59, 48, 59, 120] (by simp)) ?_ (hr := resLs_tup _ _)
  rw [e8]
  simp only [resLs, Qs, List.append_nil, Nat.reduceAdd, Nat.reduceMul, Nat.reduceBEq, id @f8r15.eq_1, uu f8b16.eq_1]
  refine call_r (w24 [50, 59, 48, 59, 49, 59, 120] (by simp)) ?_ (hr := resLs_tup _ _)
  rw [e9]
  simp only [resLs, Qs, List.append_nil, Nat.reduceAdd, Nat.reduceMul, Nat.reduceBEq, id @f8r13.eq_1, uu f8b14.eq_1]
  refine call_s (w17 [45, 48, 59]) ?_ (hr := resI_scalar _)
  rw [e3]
  simp only [resI, Qs, Nat.reduceBEq, id @f8r11.eq_1, uu f8b12.eq_1]
  refine call_s (w17 [57, 50, 50, 51, 51, 55, 50, 48, 51, 54, 56, 53, 52, 55, 55, 53, 56, 48, 56, 59]) ?_ (hr := resI_scalar _)
  rw [e4]
  simp only [resI, Qs, Nat.reduceBEq, id @f8r9.eq_1, uu f8b10.eq_1]
  refine call_s (w17 [45, 57, 50, 50, 51, 51, 55, 50, 48, 51, 54, 56, 53, 52, 55, 55, 53, 56, 48, 56, 59]) ?_ (hr := resI_scalar _)
  rw [e5]
  have ls : ((strs [[], [120]]).length : Int) = 2 := rfl
  simp only [resI, ls, Qs, if_true, if_false, Int.reduceNeg, Nat.reduceAdd, Nat.reduceBEq, Int.reduceBNe, id @f8r1.eq_1, uu f8b2.eq_1, uu f8b5.eq_1, id @f8r6.eq_1, uu f8b7.eq_1, uu f8b8.eq_1]
  refine call_s (w9 (-7) (by simp [inI])) ?_
  rw [e6]
  simp only [beq_self_eq_true, Qs, Int.reduceNeg]
  refine call_s (w11 [97, 98, 59] (by simp)) ?_
  rw [e7]
  simp only [beq_self_eq_true, Qs, if_true, forall_eq_or_imp, forall_eq, Int.reduceNeg, List.mem_cons, Nat.reduceLT, Nat.reduceBEq, List.not_mem_nil]
  refine call_s (w13 [4, 0] (by simp [okIs, inI])) ?_ (ha := by rfl)
  rw [e1]
  simp only [beq_self_eq_true, Qs, if_true, forall_eq_or_imp, forall_eq, bne_iff_ne, ne_eq, Int.reduceNeg, List.mem_cons, Nat.reduceEqDiff, Nat.reduceLT, Nat.reduceBEq, List.not_mem_nil]
  refine call_s (w15 [[], [120]] (by simp [okSs, bk])) ?_ (ha := by rfl)
  rw [e2]
  have li : ((ints [4, 0]).length : Int) = 2 := rfl
  have g0 : (ints [4, 0]).getD 0 [] = [.int .i64 4] := rfl
  have g1 : (ints [4, 0]).getD 1 [] = [.int .i64 0] := rfl
  have g2 : (strs [[], [120]]).getD 1 [] = [.str [120]] := rfl
  simp only [beq_self_eq_true, li, ls, g0, g1, g2, Qs, if_true, Int.reduceNeg, List.nodup_nil, Nat.reduceAdd, Nat.reduceBEq, Int.reduceLT, Int.reduceLE, Int.reduceToNat]
  exact hS
end Go.Abs


set_option maxRecDepth 100000
set_option maxHeartbeats 4000000
namespace Go.Abs
open Go.Proofs Go.Wire
theorem resI_none : resI none = .tup [.int .i64 0, .str [], .bool false] := rfl
def iR {α : Type} (r : Option (α × Txt)) : Txt := match r with | some p => p.2 | none => []
def iB {α : Type} (r : Option (α × Txt)) : Bool := r.isSome
def iT (r : Option (Txt × Txt)) : Txt := match r with | some p => p.1 | none => []
def iL {α : Type} (r : Option (List α × Txt)) : List α := match r with | some p => p.1 | none => []
theorem resS_eq (r : Option (Txt × Txt)) : resS r = .tup [.str (iT r), .str (iR r), .bool (iB r)] := by cases r <;> rfl
theorem resLs_eq {α : Type} (rows : List α → List (List C)) (r : Option (List α × Txt)) : resLs rows r = .tup [lst 1 (rows (iL r)), .str (iR r), .bool (iB r)] := by cases r <;> rfl
end Go.Abs


set_option maxRecDepth 100000
namespace Go.Abs
open Go.Wire
theorem wf_inI {m : Int} (h : (Lit.int .i64 m).wf = true) : inI m := by
  have := (Lit.wf_int_iff _ _).1 h
  simpa [IntKind.min, IntKind.max, IntKind.signed, IntKind.bits, inI] using this
section
variable {P : Program}
theorem arg_i64 {n : Nat} {t : TypeId} {r : List C} (ht : P.underlying t = some (.int .i64)) (hr : Shape P n t r) : ∃ m : Int, argV P t r = .int .i64 m ∧ inI m := by
  obtain ⟨m, rfl, h⟩ := shape_int ht hr
  exact ⟨m, by simp only [argV, ht], wf_inI h⟩
theorem arg_u16 {n : Nat} {t : TypeId} {r : List C} (ht : P.underlying t = some (.int .u16)) (hr : Shape P n t r) : ∃ m : Int, argV P t r = .int .u16 m ∧ 0 ≤ m ∧ m ≤ 65535 := by
  obtain ⟨m, rfl, h⟩ := shape_int ht hr
  have := (Lit.wf_int_iff _ _).1 h
  exact ⟨m, by simp only [argV, ht], by simpa [IntKind.min, IntKind.max, IntKind.signed, IntKind.bits] using this⟩
theorem arg_txt {n : Nat} {t : TypeId} {r : List C} (ht : P.underlying t = some .string) (hr : Shape P n t r) : ∃ s : Txt, argV P t r = .str s := by
  obtain ⟨s, rfl, _⟩ := shape_str ht hr
  exact ⟨s, by simp only [argV, ht]⟩
theorem arg_is {n : Nat} {t e : TypeId} {r : List C} (ht : P.underlying t = some (.slice e)) (he : P.underlying e = some (.int .i64)) (hc : P.cellsOf e = 1) (hr : Shape P n t r) : ∃ l : List Int, argV P t r = lst 1 (ints l) ∧ ∀ x ∈ l, inI x := by
  obtain ⟨m, rows, rfl, rfl, hlen, h⟩ := shape_slice ht hr
  clear hlen
  have hex : ∃ l : List Int, rows = l.map encI ∧ ∀ x ∈ l, inI x := by
    clear hr
    induction rows with
    | nil => exact ⟨[], rfl, by simp⟩
    | cons a rows ih =>
      obtain ⟨l, rfl, hl⟩ := ih fun x hx => h x (by simp [hx])
      obtain ⟨x, rfl, hx⟩ := shape_int he (h a (by simp))
      refine ⟨x :: l, rfl, fun y hy => ?_⟩
      rcases List.mem_cons.1 hy with rfl | hy
      · exact wf_inI hx
      · exact hl y hy
  obtain ⟨l, rfl, hl⟩ := hex
  exact ⟨l, by simp only [argV, ht, hc]; rfl, hl⟩
theorem arg_ss {n : Nat} {t e : TypeId} {r : List C} (ht : P.underlying t = some (.slice e)) (he : P.underlying e = some .string) (hc : P.cellsOf e = 1) (hr : Shape P n t r) : ∃ l : List Txt, argV P t r = lst 1 (strs l) := by
  obtain ⟨m, rows, rfl, rfl, _, h⟩ := shape_slice ht hr
  obtain ⟨l, rfl⟩ := rows_of encS (fun r hr => by obtain ⟨x, rfl, _⟩ := shape_str he hr; exact ⟨x, rfl⟩) rows h
  exact ⟨l, by simp only [argV, ht, hc]; rfl⟩
theorem bulk_ints : ∀ l : List Int, C.bulkRows (ints l) = l.length
  | [] => rfl
  | x :: l => by have := bulk_ints l; simp only [ints, List.map_cons, C.bulkRows, C.bulkRow, C.bulk, List.length_cons] at this ⊢; omega
theorem bulk_strs : ∀ l : List Txt, C.bulkRows (strs l) = bk l
  | [] => rfl
  | x :: l => by have := bulk_strs l; simp only [strs, encS, List.map_cons, C.bulkRows, C.bulkRow, C.bulk, bk] at this ⊢; omega
theorem bulk_is (l : List Int) : V.bulk (lst 1 (ints l)) = l.length + 1 := by
  have := bulk_ints l
  simp only [V.bulk, lstC, C.bulk, this]
theorem bulk_ss (l : List Txt) : V.bulk (lst 1 (strs l)) = bk l + 1 := by
  have := bulk_strs l
  simp only [V.bulk, lstC, C.bulk, this]
theorem bulk_str (s : Txt) : V.bulk (.str s) = s.length + 1 := rfl
theorem bulk_int (k : IntKind) (n : Int) : V.bulk (.int k n) = 1 := rfl
end
theorem ifc_trod {H : Type} {enc : TypeId × Value → H} {P : Program} {w : World} {base : Nat} {sp : Nat → Bool} {held : Bool} {fuel : Nat} {t : TypeId} {ms : Array (String × TypeId)} {cs : List Value} {x : DataW H × List MemPlace}
    (ht : P.underlying t = some (.interface ms)) (h : DataW.trod enc P w base sp held fuel t cs = some x) : ∃ v, cs = [v] ∧ (v = .nilIface ∨ ∃ t p, v = .iface t p) := by
  cases fuel with
  | zero => simp [DataW.trod] at h
  | succ n =>
    unfold DataW.trod at h
    rw [ht] at h
    split at h <;> simp_all
end Go.Abs
namespace Go.Proofs.YtcibefohnikdeaaDoor
open Go.Abs Go.RowKit Go.ChangeShapes Go.WideShapes Go.ChangeAt Go.WideMaps Go.WideElems Go.Wire
theorem own : ownKnob Tryd.prog.godebug = none := by kernel_rfl
theorem kids : Kids Tryd.prog (· < Tryd.prog.types.size) := kids_rows (by kernel_rfl) (by kernel_rfl)
theorem full : ∀ t e, t < Tryd.prog.types.size → Tryd.prog.underlying t = some (.slice e) → 0 < Tryd.prog.cellsOf e := slices_full_of Tryd.prog (by kernel_rfl)
def plainTs : List TypeId := [3, 4, 9, 22, 23, 41]
theorem plainTs_ok : plainT Tryd.prog plainTs = true := by kernel_rfl
theorem plainTs_lt : ∀ t ∈ plainTs, t < Tryd.prog.types.size := by
  have : plainTs.all (fun t => decide (t < Tryd.prog.types.size)) = true := by kernel_rfl
  simpa using this
theorem one3 : Tryd.prog.cellsOf 3 = 1 := by kernel_rfl
theorem one9 : Tryd.prog.cellsOf 9 = 1 := by kernel_rfl
theorem bulkR (H : Type) : Bulk (H := H) Rows.uptoBulk Rows.uptoBulkAll where
  one d := by
    cases d with
    | lit l => cases l <;> simp [Rows.uptoBulk]
    | nil => simp [Rows.uptoBulk]
    | ptr d => simp [Rows.uptoBulk]
    | slice elems spare => simp [Rows.uptoBulk]
    | agg parts => simp [Rows.uptoBulk]
    | iface t d => simp [Rows.uptoBulk]
    | map entries => simp [Rows.uptoBulk]
    | held h => simp [Rows.uptoBulk]
  str s := by simp [Rows.uptoBulk]
  slice es sp := by simp only [Rows.uptoBulk]; omega
  agg ps := by simp [Rows.uptoBulk]
  cons d l := by simp [Rows.uptoBulkAll]
abbrev laidL : List (String × DataW Unit) := Rows.wireTellsUptoRow.laid
theorem block_of {W : World} {name : String} {g : Nat} {cs : Array Value} (hn : Tryd.prog.globalNamed name = some g) (hv : W.var? Tryd.prog name = some cs) : ∃ t f, W.heap[g]? = some (.cells cs t f) := by
  unfold World.var? at hv
  rw [hn, Option.bind_some] at hv
  split at hv
  · rename_i h
    cases hv
    exact ⟨_, _, h⟩
  · cases hv
theorem err_of {W : World} (h : laidMet Tryd.prog laidL W) {name : String} {g : Nat} {d : DataW Unit} (hn : Tryd.prog.globalNamed name = some g) (ht : (Tryd.prog.globals[g]?).map (·.type) = some 48) (hm : (name, d) ∈ laidL) :
    g < W.heap.size ∧ ∃ b, W.heap[g]? = some b ∧ cell0 (fun v => v = .nilIface ∨ ∃ t p, v = .iface t p) b := by
  obtain ⟨g', t', cs, fuel, p, hg, hty, hvar, hd⟩ := Lib.laidMet.reads h hm
  obtain rfl := Option.some.inj (hn.symm.trans hg)
  obtain rfl := Option.some.inj (ht.symm.trans hty)
  obtain ⟨v, e, hv⟩ := ifc_trod Tryd.underlying48 hd
  obtain ⟨t, f, hb⟩ := block_of hn hvar
  refine ⟨(Array.getElem?_eq_some_iff.1 hb).1, _, hb, v, ?_, hv⟩
  rw [← Array.getElem?_toList, e]; rfl
theorem glob_of {W : World} (hL : laidMetH Tryd.prog laidL W) (hsh : W.ShapedOpen Tryd.prog) : GlobB (Go.Abs.base W) := by
  rw [MakeChecks.laidMetH_plain _ _ _ (by kernel_rfl)] at hL
  refine ⟨(fun _ _ h => nomatch h), fun g p hg => ?_⟩
  match g, hg with
  | 0, hg =>
    cases hg
    obtain ⟨m, hm⟩ := cell_of_shapedOpen_int (zero := #[.int .i64 0]) (t := 3) (k := .i64) (g := 0) hsh (of_decide_eq_true (by kernel_rfl)) (by kernel_rfl) rfl (by kernel_rfl) (by kernel_rfl) Tryd.underlying3
    unfold World.cell? at hm
    cases hb : W.heap[0]? with
    | none => rw [hb] at hm; simp at hm
    | some ob =>
      refine ⟨(Array.getElem?_eq_some_iff.1 hb).1, ob, rfl, ?_⟩
      rw [hb] at hm
      cases ob with
      | cells cs t f => exact ⟨_, by simpa using hm, m, rfl⟩
      | _ => simp at hm
  | 1, hg => cases hg; exact err_of hL (name := "strconv.ErrSyntax") (by kernel_rfl) (by kernel_rfl) (.tail _ (.tail _ (.tail _ (.tail _ (.head _)))))
  | 2, hg => cases hg; exact err_of hL (name := "strconv.ErrRange") (by kernel_rfl) (by kernel_rfl) (.tail _ (.tail _ (.tail _ (.head _))))
  | 3, hg =>
    cases hg
    obtain ⟨g', t', cs, fuel, p, hg', hty, hvar, hd⟩ := Lib.laidMet.reads hL (n := "internal/strconv.uint64pow10") (.tail _ (.tail _ (.head _)))
    have hn : Tryd.prog.globalNamed "internal/strconv.uint64pow10" = some 3 := by kernel_rfl
    obtain rfl := Option.some.inj (hn.symm.trans hg')
    have h85 : (Tryd.prog.globals[3]?).map (·.type) = some 85 := by kernel_rfl
    obtain rfl := Option.some.inj (h85.symm.trans hty)
    obtain ⟨t, f, hb⟩ := block_of hn hvar
    refine ⟨(Array.getElem?_eq_some_iff.1 hb).1, _, hb, ?_⟩
    have hd' : DataW.trod (fun _ => ()) Tryd.prog W 0 (fun _ => true) false fuel 85 cs.toList = some (Lib.tabData .u64 pow10T, p) := hd
    have e := Lib.cells_of_tab Tryd.underlying85 Tryd.underlying69 (by kernel_rfl) (by kernel_rfl) hd'
    show cs = _
    rw [← e]
theorem door_met (os : Os) (args : Array Value) : laidMetH Tryd.prog laidL ((World.doorLaid Tryd.prog 400 os).forCall (fun _ _ => 0) ⟨#[], args, []⟩).memory :=
  laidMetH_of_parts3 (fuel := 8) (laidMet_of_run' 8 (by kernel_rfl) (by kernel_rfl)) (by kernel_rfl) (by kernel_rfl)
end Go.Proofs.YtcibefohnikdeaaDoor


set_option maxRecDepth 100000
set_option maxHeartbeats 4000000
namespace Go.Abs
open Go.Proofs Go.Wire
theorem okS_of {s : Txt} (h : s.length ≤ 1000000000000) : okS s := by unfold okS; omega
theorem okL_I {l : List Int} (h : okIs l) : okL inI l := ⟨by have := h.1; omega, h.2⟩
theorem okL_S {t : List Txt} (h : okSs t) : okL okS t := by
  unfold okSs at h
  have h1 := bk_len t
  exact ⟨by omega, fun s hs => okS_of (by have := bk_mem hs; omega)⟩
theorem wLI_le {l : List Int} (h : okIs l) : (wL wI l).length ≤ 21 + 21 * l.length := by
  have h1 := wN_leI h.2
  have h2 := wI_le (n := l.length) ⟨by omega, by have := h.1; omega⟩
  rw [wL, List.length_append]; omega
theorem wLS_le {t : List Txt} (h : okSs t) : (wL wS t).length ≤ 21 + 21 * bk t := by
  have h1 := wN_leS h
  have h3 := bk_len t
  unfold okSs at h
  have h2 := wI_le (n := t.length) ⟨by omega, by omega⟩
  rw [wL, List.length_append]; omega
end Go.Abs


set_option maxRecDepth 100000
set_option maxHeartbeats 4000000
namespace Go.Abs
open Go.Proofs Go.Wire
theorem l6 (n : Int) (s : Txt) (l : List Int) (t : List Txt) (a : Int) (hn : inI n) (hs : s.length ≤ 2000000) (hl : okIs l) (hl2 : l.length ≤ 2000000) (ht : okSs t) (ht2 : bk t ≤ 2000000) (ha : 0 ≤ a ∧ a ≤ 65535) :
    Spec Tryd.prog 6 [.int .i64 n, .str s, lst 1 (ints l), lst 1 (strs t), .int .u16 a] (fun r => r = .bool true) := by
  have k1 := wI_le hn
  have k2 := wS_le (s := s) (by omega)
  have k3 := wLI_le hl
  have k4 := wLS_le ht
  have j1 := wI_len hn
  have j2 := wS_len (okS_of (s := s) (by omega))
  have j3 : 2 ≤ (wL wI l).length := by
    have := wI_len (n := l.length) ⟨by omega, by have := hl.1; omega⟩
    rw [wL, List.length_append]; omega
  have j4 : 2 ≤ (wL wS t).length := by
    have := bk_len t
    have := wI_len (n := t.length) ⟨by omega, by omega⟩
    rw [wL, List.length_append]; omega
  refine Spec.of_awlS hf6 okf6 (by simp) fun S hS => ?_
  simp only [Qs, Nat.reduceAdd, uu f6.eq_1, id @f6r19.eq_1, uu f6b20.eq_1, id @f6r21.eq_1, uu f6b22.eq_1]
  refine call_s w8 ?_
  simp only [Qs, Nat.reduceBEq, id @f6r17.eq_1, uu f6b18.eq_1]
  refine call_s (w9 n hn) ?_
  simp only [Qs, Nat.reduceBEq]
  refine call_s (w11 s (by omega)) ?_
  simp only [Qs, Nat.reduceBEq]
  refine call_s (w13 l hl) ?_
  simp only [Qs, Nat.reduceBEq]
  refine call_s (w15 t ht) ?_
  have p1 := fun {k} h => reads_I.cut hn (k := k) h
  have p2 := fun {k} h => reads_S.cut (okS_of (s := s) (by omega)) (k := k) h
  have p3 := fun {k} h => reads_Is.cut (okL_I hl) (k := k) h
  have p4 := fun {k} h => reads_Ss.cut (okL_S ht) (k := k) h
  obtain ⟨k, rfl⟩ : ∃ k : Nat, a = k := ⟨a.toNat, by omega⟩
  generalize hw1 : wI n = A at *
  generalize hw2 : wS s = B at *
  generalize hw3 : wL wI l = D at *
  generalize hw4 : wL wS t = E at *
  have c1 : ((A.length : Int) == 0) = false := by simp; intro h; simp [h] at j1
  have c2 : ((B.length : Int) == 0) = false := by simp; intro h; simp [h] at j2
  have c3 : ((D.length : Int) == 0) = false := by simp; intro h; simp [h] at j3
  have c4 : ((E.length : Int) == 0) = false := by simp; intro h; simp [h] at j4
  have wa : IntKind.i64.wrap (k : Int) = k := wrap_in (by omega) (by omega)
  have md : ∀ X : Txt, (k : Int).tmod (X.length : Int) = ((k % X.length : Nat) : Int) := fun _ => rfl
  have m1 : k % A.length < A.length := Nat.mod_lt _ (by omega)
  have m2 : k % B.length < B.length := Nat.mod_lt _ (by omega)
  have m3 : k % D.length < D.length := Nat.mod_lt _ (by omega)
  have m4 : k % E.length < E.length := Nat.mod_lt _ (by omega)
  have t1 := p1 m1
  have t2 := p2 m2
  have t3 := p3 m3
  have t4 := p4 m4
  have g1 : (A.take (k % A.length)).length ≤ 100000000 := by rw [List.length_take]; omega
  have g2 : (B.take (k % B.length)).length ≤ 100000000 := by rw [List.length_take]; omega
  have g3 : (D.take (k % D.length)).length ≤ 100000000 := by rw [List.length_take]; omega
  have g4 : (E.take (k % E.length)).length ≤ 100000000 := by rw [List.length_take]; omega
  have z1 : ¬ (A.length : Int) = 0 := by omega
  have z2 : ¬ (B.length : Int) = 0 := by omega
  have z3 : ¬ (D.length : Int) = 0 := by omega
  have z4 : ¬ (E.length : Int) = 0 := by omega
  have y1 : ((k % A.length : Nat) : Int) ≤ A.length := by omega
  have y2 : ((k % B.length : Nat) : Int) ≤ B.length := by omega
  have y3 : ((k % D.length : Nat) : Int) ≤ D.length := by omega
  have y4 : ((k % E.length : Nat) : Int) ≤ E.length := by omega
  simp only [c1, c2, c3, c4, wa, md, z1, y1, Qs, if_true, if_false, ne_eq, Nat.reduceBEq, Int.reduceLE, id @f6r9.eq_1, uu f6b10.eq_1, uu f6b13.eq_1, id @f6r14.eq_1, uu f6b15.eq_1, uu f6b16.eq_1]
  refine call_s (w17 (A.take (k % A.length))) ?_ (hr := resI_scalar _)
  rw [t1]
  simp only [resI_none, wa, md, z2, y2, Qs, if_true, ne_eq, Nat.reduceBEq, Int.reduceLE, id @f6r7.eq_1, uu f6b8.eq_1]
  refine call_s (w19 (B.take (k % B.length)) (by omega)) ?_ (hr := resS_scalar _)
  rw [t2]
  simp only [resS_eq, iT, iR, iB, Option.isSome_none, wa, md, z3, y3, Qs, if_true, ne_eq, Nat.reduceBEq, Int.reduceLE, id @f6r5.eq_1, uu f6b6.eq_1]
  refine call_r (w21 (D.take (k % D.length)) g3) ?_ (hr := resLs_tup _ _)
  rw [t3]
  simp only [resLs_eq, iL, iR, iB, Option.isSome_none, wa, md, z4, y4, Qs, if_true, ne_eq, List.append_nil, Nat.reduceAdd, Nat.reduceMul, Nat.reduceBEq, Int.reduceLE, id @f6r3.eq_1, uu f6b4.eq_1]
  refine call_r (w24 (E.take (k % E.length)) g4) ?_ (hr := resLs_tup _ _)
  rw [t4]
  simp only [resLs_eq, iL, iR, iB, Option.isSome_none, Qs, if_true, List.append_nil, List.nodup_nil, Nat.reduceAdd, Nat.reduceMul, Nat.reduceBEq, id @f6r1.eq_1, uu f6b2.eq_1]
  exact hS
end Go.Abs


set_option maxRecDepth 100000
namespace Go.Proofs.YtcibefohnikdeaaDoor
open Go.Abs Go.RowKit Go.ChangeShapes Go.WideShapes Go.ChangeAt Go.WideMaps Go.WideElems Go.Wire
theorem spec6 (xs : List V) (h : ArgsOf Tryd.prog [3, 9, 22, 23, 41] xs) (hb : bulkVs xs ≤ 1048576) : Go.Abs.Spec Tryd.prog 6 xs (fun r => r = .bool true) := by
  match xs, h, hb with
  | [a0, a1, a2, a3, a4], ⟨⟨_, _, h0, q0⟩, ⟨_, _, h1, q1⟩, ⟨_, _, h2, q2⟩, ⟨_, _, h3, q3⟩, ⟨_, _, h4, q4⟩, _⟩, hb =>
    obtain ⟨x0, e0, r0⟩ := arg_i64 Tryd.underlying3 h0
    obtain ⟨x1, e1⟩ := arg_txt Tryd.underlying9 h1
    obtain ⟨x2, e2, r2⟩ := arg_is Tryd.underlying22 Tryd.underlying3 one3 h2
    obtain ⟨x3, e3⟩ := arg_ss Tryd.underlying23 Tryd.underlying9 one9 h3
    obtain ⟨x4, e4, r4⟩ := arg_u16 Tryd.underlying41 h4
    rw [q0, q1, q2, q3, q4, e0, e1, e2, e3, e4]
    rw [q0, q1, q2, q3, q4, e0, e1, e2, e3, e4] at hb
    simp only [bulkVs, bulk_int, bulk_is, bulk_ss, bulk_str] at hb
    exact l6 x0 x1 x2 x3 x4 r0 (by omega) ⟨by omega, r2⟩ (by omega) (by unfold okSs; omega) (by omega) r4
theorem reads6 (os : Os) {H : Type} (enc : TypeId × Value → H) : ∃ places, DataW.whole enc Tryd.prog ((World.doorLaid Tryd.prog 400 os).forCall (fun _ _ => 0) ⟨#[], #[Value.int .i64 0, .string ⟨#[]⟩, .slice none 0 0, .slice none 0 0, .int .u16 0], []⟩).memory Tryd.f6.params.toList Rows.wireCutSpec.vars false #[Value.int .i64 0, .string ⟨#[]⟩, .slice none 0 0, .slice none 0 0, .int .u16 0].toList 8 = some ([.lit (.int .i64 0), .lit (.string []), .nil, .nil, .lit (.int .u16 0)], [], places) :=
  ⟨[], by kernel_rfl⟩
theorem lifted6 (os : Os) (started : os.Started) (H : Type) (enc : TypeId × Value → H) (F : Stop.Interp) :
    ReturnsInHanded {} Tryd.checked os 6 .any ((Rows.OpenSpec.upto Rows.wireCutSpec).preRow enc Tryd.prog Tryd.f6 Rows.wireCutUptoRow.domain false Rows.wireCutUptoRow.laid) (((Rows.OpenSpec.upto Rows.wireCutSpec).at F).post enc Tryd.prog Tryd.f6 false true false false) := by
  obtain ⟨places, hx⟩ := reads6 os enc
  refine returnsInHanded_of_row (C := Tryd.checked) (s := Rows.OpenSpec.upto Rows.wireCutSpec) own started (by kernel_rfl) Tryd.func6
    (witness_row_atRef (enc := enc) (C := Tryd.checked) false (World.doorLaid Tryd.prog 400 os) #[Value.int .i64 0, .string ⟨#[]⟩, .slice none 0 0, .slice none 0 0, .int .u16 0] rfl (by kernel_rfl) (by kernel_rfl) (by kernel_rfl)
      (OpenSpec.preRow_of_cond 8 hx (by kernel_rfl) (fun k hk => by cases hk; kernel_rfl) (by kernel_rfl) (door_met os _))) ?_
  intro W base args ds gs before hval hW _ hcond _ hL hsh _
  have hk : Rows.uptoBulkAll (ds ++ gs) ≤ 1048576 := of_decide_eq_true (hcond _ rfl)
  refine law_contractU (C := Tryd.checked) (T := plainTs) (tb := 4) (s := Rows.wireCutSpec) plainTs_ok plainTs_lt ?_ kids full rfl ?_ ?_ Tryd.underlying4 W base args ds gs before (N := 1048576) ?_ hval hW (glob_of hL hsh)
  · rw [Tryd.params6]; decide
  · intro ds hds
    rw [Tryd.params6] at hds
    match ds, hds with
    | [a0, a1, a2, a3, a4], _ => rfl
  · kernel_rfl
  · intro xs hxs hb
    rw [Tryd.params6] at hxs
    exact spec6 xs hxs (hb ⟨_, _, bulkR H, hk⟩)
theorem WireCut_row : Rows.WireCutUptoSaid :=
  OpenClaim.holds_of_cond 6 Tryd.f6 rfl rfl rfl rfl rfl rfl rfl ⟨rfl, rfl, rfl, rfl, rfl⟩ rfl rfl rfl rfl rfl (by kernel_rfl) Tryd.func6 (by kernel_rfl)
    (of_decide_eq_true (by kernel_rfl)) (by unfold Func.isWrapper; first | (rw [if_pos (by decide +kernel)]; kernel_rfl) | (rw [if_neg (by decide +kernel)]; exact ⟨rfl, rfl⟩))
    (fun os started H enc _ F => by rw [OpenClaim.pre_eq_preRow]; exact lifted6 os started H enc F)
theorem WireCut_holds : Rows.WireCutUptoCardSaid :=
  Claim7.holds_tied_plain_at .later [] _ _ _ _ WireCut_row (fun _ h => by cases h) (by kernel_rfl) (fun _ h => by cases h) wireCutUpto_row_tie rfl ⟨rfl, rfl⟩ (by kernel_rfl) rfl
    (fun f fn hf hfn => by
      obtain rfl : f = 6 := Option.some.inj ((show Tryd.prog.funcNamed "allonge/allongelaw01.WireCut" = some 6 by kernel_rfl).symm.trans hf) |>.symm
      obtain rfl : fn = Tryd.f6 := (Option.some.inj (Tryd.func6.symm.trans hfn)).symm
      exact ⟨by kernel_rfl, fun j t ht => by
        rw [Tryd.params6] at ht
        have hm : t ∈ [3, 9, 22, 23, 41] := by simpa using Array.mem_of_getElem? ht
        have hall : ([3, 9, 22, 23, 41].all fun u => !Tryd.prog.wantsStandIn u) = true := by kernel_rfl
        exact (show Tryd.prog.wantsStandIn t = false by simpa using List.all_eq_true.1 hall t hm)⟩)
    (by kernel_rfl)
end Go.Proofs.YtcibefohnikdeaaDoor

