/- A part of the proof; the last text states what is proved. -/
import Derived.Test.YtefmlddbkmgliaaP4
import Derived.Deep.AppendSrc
import Derived.Lib.SliceRun
import Derived.Test.YtefmlddbkmgliaaProg
import Derived.Shelf.SlSortCmp.NoneTotal
import Derived.Shelf.SlicesG.Cmp
set_option linter.unusedVariables false
set_option linter.unusedSimpArgs false
set_option maxRecDepth 100000
set_option maxHeartbeats 4000000
namespace Go.Abs
def getI (l : List Int) (i : Int) : Int := l.getD i.toNat 0
def zeros (l : List Int) : Nat := (l.filter fun x => decide (x = 0)).length
def bfsIn (s b : Int) : List Int → List Int → List Int → List Int × List Int
  | [], far, q => (far, q)
  | a :: l, far, q => if a > s ∧ getI far a = 0 then bfsIn s b l (far.set a.toNat (getI far b + 1)) (q ++ [a]) else bfsIn s b l far q
def bfs (back : List (List Int)) (s : Int) : Nat → List Int → List Int → List Int
  | 0, far, _ => far
  | _ + 1, far, [] => far
  | k + 1, far, b :: q => bfs back s k (bfsIn s b (back.getD b.toNat []) far q).1 (bfsIn s b (back.getD b.toNat []) far q).2
def stepsG (back : List (List Int)) (s n : Nat) : List Int := bfs back s n ((List.replicate n (0 : Int)).set s 1) [(s : Int)]
theorem zeros_set : ∀ (l : List Int) (i : Nat) (v : Int), i < l.length → l.getD i 0 = 0 → v ≠ 0 → zeros (l.set i v) + 1 = zeros l
  | [], i, v, h, _, _ => absurd h (by simp)
  | x :: l, 0, v, _, h0, hv => by
    have h0 : x = 0 := h0
    subst h0
    simp [zeros, hv]
  | x :: l, i + 1, v, h, h0, hv => by
    have ih := zeros_set l i v (by simpa using h) (by simpa using h0) hv
    unfold zeros at ih ⊢
    by_cases hx : x = 0
    · simp [hx] at ih ⊢; omega
    · simp [hx] at ih ⊢; exact ih
theorem zeros_le (l : List Int) : zeros l ≤ l.length := List.length_filter_le _ _
structure Sane (n : Nat) (far : List Int) (q : List Int) : Prop where
  len : far.length = n
  pos : ∀ i, 0 ≤ far.getD i 0
  top : ∀ i, far.getD i 0 ≤ (n : Int) - zeros far
  q0 : ∀ a ∈ q, 0 ≤ a ∧ a < n
theorem Sane.push {n : Nat} {far q : List Int} (h : Sane n far q) {a b : Int} (ha : 0 ≤ a ∧ a < n) (h0 : getI far a = 0) : Sane n (far.set a.toNat (getI far b + 1)) (q ++ [a]) := by
  have hal : a.toNat < far.length := by rw [h.len]; omega
  have hb := h.pos b.toNat
  have hz := zeros_set far a.toNat (getI far b + 1) hal h0 (by unfold getI; omega)
  have hg : ∀ i, (far.set a.toNat (getI far b + 1)).getD i 0 = if i = a.toNat then getI far b + 1 else far.getD i 0 := by
    intro i
    rw [List.getD_eq_getElem?_getD, List.getElem?_set]
    by_cases hi : a.toNat = i
    · subst hi; simp [hal]
    · simp [hi, Ne.symm hi]
  have ht := h.top b.toNat
  refine ⟨by rw [List.length_set]; exact h.len, fun i => ?_, fun i => ?_, fun x hx => ?_⟩
  · rw [hg]; split
    · unfold getI; omega
    · exact h.pos i
  · rw [hg]; split
    · unfold getI; unfold getI at hz; omega
    · have := h.top i; omega
  · rcases List.mem_append.1 hx with hx | hx
    · exact h.q0 x hx
    · rw [List.mem_singleton.1 hx]; exact ha
theorem bfsIn_sane {n : Nat} (s b : Int) : ∀ (l far q : List Int), (∀ a ∈ l, 0 ≤ a ∧ a < n) → Sane n far q → Sane n (bfsIn s b l far q).1 (bfsIn s b l far q).2 ∧ zeros (bfsIn s b l far q).1 + (bfsIn s b l far q).2.length = zeros far + q.length
  | [], far, q, _, h => ⟨h, rfl⟩
  | a :: l, far, q, hl, h => by
    have ha := hl a List.mem_cons_self
    have hl' : ∀ x ∈ l, 0 ≤ x ∧ x < n := fun x hx => hl x (List.mem_cons_of_mem _ hx)
    rw [bfsIn]
    by_cases hc : a > s ∧ getI far a = 0
    · rw [if_pos hc]
      obtain ⟨h1, h2⟩ := bfsIn_sane s b l _ _ hl' (h.push (b := b) ha hc.2)
      refine ⟨h1, ?_⟩
      rw [h2, List.length_append, List.length_singleton]
      have := zeros_set far a.toNat (getI far b + 1) (by rw [h.len]; omega) hc.2 (by have := h.pos b.toNat; unfold getI; omega)
      omega
    · rw [if_neg hc]
      exact bfsIn_sane s b l far q hl' h
theorem sane_start {n s : Nat} (hs : s < n) : Sane n ((List.replicate n (0 : Int)).set s 1) [(s : Int)] ∧ zeros ((List.replicate n (0 : Int)).set s 1) + 1 = n := by
  have hz0 : zeros (List.replicate n (0 : Int)) = n := by unfold zeros; rw [List.filter_replicate]; simp
  have hz := zeros_set (List.replicate n (0 : Int)) s 1 (by simpa using hs) (by simp [List.getD, hs]) (by decide)
  have hg : ∀ i, ((List.replicate n (0 : Int)).set s 1).getD i 0 = if i = s then 1 else 0 := by
    intro i
    rw [List.getD_eq_getElem?_getD, List.getElem?_set]
    by_cases hi : s = i
    · subst hi; simp [hs]
    · simp only [hi, if_false, Ne.symm hi, List.getElem?_replicate]; split <;> rfl
  refine ⟨⟨by simp, fun i => ?_, fun i => ?_, fun a ha => ?_⟩, by omega⟩
  · rw [hg]; split <;> decide
  · rw [hg]; split <;> omega
  · rw [List.mem_singleton.1 ha]; omega
end Go.Abs
namespace Go.Proofs
open Go.Shelf Go.RowKit Go.Lib Go.Abs
def QOwn (w : World) (B : Nat) (v : Value) (Q : List Int) : Prop :=
  ∃ g h c N f, v = .slice (some ⟨g, h, none⟩) Q.length c ∧ B ≤ g ∧ w.rowIs g 3 N f ∧ h + c ≤ N ∧ Q.length ≤ c ∧ ∀ i, i < Q.length → f (h + i) = .int .i64 (Q.getD i 0)
theorem QOwn.keep {w w' : World} {B : Nat} {v : Value} {Q : List Int} {row : Option Nat} (h : QOwn w B v Q) (hg : w.grownBy w' row) (hr : ∀ k, row = some k → k < B) : QOwn w' B v Q := by
  obtain ⟨g, hh, c, N, f, hv, hB, hr2, hN, hl, hf⟩ := h
  exact ⟨g, hh, c, N, f, hv, hB, hr2.of_block (hg.block g hr2.lt (fun e => by have := hr g e.symm; omega)), hN, hl, hf⟩
theorem QOwn.pop {w : World} {B g h c : Nat} {b : Int} {Q : List Int} {v : Value} (H : QOwn w B v (b :: Q)) (hv : v = .slice (some ⟨g, h, none⟩) (Q.length + 1) c) : QOwn w B (.slice (some ⟨g, h + 1, none⟩) Q.length (c - 1)) Q ∧ (c = 1 → QOwn w B (.slice (some ⟨g, h, none⟩) Q.length 0) Q) ∧ w.cell? ⟨g, h, none⟩ = some (.int .i64 b) ∧ 1 ≤ c := by
  obtain ⟨g', h', c', N, f, hv', hB, hr, hN, hl, hf⟩ := H
  rw [hv] at hv'
  injection hv' with e1 e2 e3
  injection e1 with e1
  injection e1 with e1 e4
  subst e1 e3 e4
  simp only [List.length_cons] at hl hf
  refine ⟨⟨g, h + 1, c - 1, N, f, rfl, hB, hr, by omega, by omega, fun i hi => ?_⟩, fun h1 => ⟨g, h, 0, N, f, rfl, hB, hr, by omega, by omega, fun i hi => by omega⟩, ?_, by omega⟩
  · have := hf (i + 1) (by omega)
    rw [show h + 1 + i = h + (i + 1) by omega, this]; rfl
  · have := hr.cell (i := h) (by omega)
    rw [this]
    have := hf 0 (by omega)
    rw [Nat.add_zero] at this
    rw [this]; rfl
theorem run_append_q {w : World} {B : Nat} {v : Value} {Q : List Int} (H : QOwn w B v Q) (ad : Addr) (c1 : Nat) (a : Int) (hx : w.cell? ad = some (.int .i64 a)) (hB : B ≤ w.heap.size) (hl : Q.length ≤ 1000000) (ty : TypeId) :
    ∃ v' w', (Builtin.append_ #[23, 23] ty #[v, .slice (some ad) 1 c1]).run Try.prog w = .ok v' w' ∧ QOwn w' B v' (Q ++ [a]) ∧ w.grownBy w' v.ownBlock ∧ (v'.ownBlock = v.ownBlock ∨ v'.ownBlock = some w.heap.size) := by
  obtain ⟨i0, hi, hz0, hz1, hz2⟩ := info_parts (P := Try.prog) (e := 3) (z := .int .i64 0) (size := 1) (bytes := 8) (by kernel_rfl)
  obtain ⟨g, h, c, N, f, rfl, hBg, hr, hN, hlc, hf⟩ := H
  have hnews : ∀ j u, [Value.int .i64 a][j]? = some u → w.cell? (ad.add j) = some u := by
    intro j u hu
    match j, hu with
    | 0, hu =>
      simp at hu; subst hu
      have : ad.add 0 = ad := by unfold Addr.add; split <;> simp_all
      rw [this]; exact hx
    | j + 1, hu => simp at hu
  by_cases hroom : Q.length + 1 ≤ c
  · have hs := Src.ofSlice (P := Try.prog) w (size := i0.size) (tx := 23) Try.underlying23 ad 1 c1 [.int .i64 a] (by rw [hz1]; rfl) hnews (by intro u hu; rw [List.mem_singleton.1 hu]; rfl)
    have hrun := run_append_room_src (P := Try.prog) w 23 23 ty 3 i0 Try.underlying23 hi g h Q.length c _ 1 _ hs hroom (fun j hj => by
        have : j = 0 := by simpa using hj
        subst this
        rw [hz1, Nat.mul_one, Nat.add_zero, hr.cell (by omega)]; rfl) (fun j _ => hr.frozen _)
    rw [hz1, Nat.mul_one] at hrun
    refine ⟨_, _, hrun, ⟨g, h, c, N, fun j => if j = h + Q.length then .int .i64 a else f j, by rw [List.length_append]; rfl, hBg, hr.set _ _, hN, by rw [List.length_append]; simpa using hroom, fun i hi => ?_⟩, ?_, .inl rfl⟩
    · rw [List.length_append, List.length_singleton] at hi
      show (if h + i = h + Q.length then _ else _) = _
      by_cases e : i = Q.length
      · subst e
        rw [if_pos rfl]; simp [List.getD]
      · rw [if_neg (by omega), hf i (by omega)]
        congr 1
        rw [List.getD_eq_getElem?_getD, List.getD_eq_getElem?_getD, List.getElem?_append_left (by omega)]
    · refine ⟨rfl, rfl, rfl, by simp [World.setCells, World.setCell], fun k hk hne => ?_⟩
      exact Below.heap_setCell w ⟨g, h + Q.length, none⟩ _ k (fun e => hne (by rw [e]; rfl))
  · have hlq : Q.length = c := by omega
    have hold : ∀ j u, (Q.map (Value.int .i64))[j]? = some u → w.cell? ((⟨g, h, none⟩ : Addr).add j) = some u := by
      intro j u hu
      obtain ⟨x, hx, rfl⟩ := (List.getElem?_map .. ▸ hu : (Q[j]?).map (Value.int .i64) = some u) |> Option.map_eq_some_iff.1
      have hj := (List.getElem?_eq_some_iff.1 hx).1
      rw [Addr.add_lit, hr.cell (by omega), hf j hj]
      rw [List.getD_eq_getElem?_getD, hx]; rfl
    have hrun := run_append_grow (P := Try.prog) w 23 ty 3 i0 (.int .i64 0) Try.underlying23 hi hz0 ⟨g, h, none⟩ Q.length c (Q.map (Value.int .i64)) (by rw [hz1]; simp) hold ad 1 c1 [.int .i64 a] (by rw [hz1]; rfl) hnews (by omega) (by omega) (growslice_fits (by omega) (by rw [hz2]; omega))
    have hge := grownCap_ge w (Q.length + 1) c 3
    generalize hA : (Q.map (Value.int .i64)).toArray ++ [Value.int .i64 a].toArray ++ Builtin.zeroCells (Value.int .i64 0).cells (grownCap w (Q.length + 1) c 3 - (Q.length + 1)) = A at hrun
    have hsz : A.size = grownCap w (Q.length + 1) c 3 := by
      rw [← hA]
      simp only [Array.size_append, List.size_toArray, List.length_map, List.length_singleton, size_zeroCells]
      show Q.length + 1 + _ * 1 = _
      omega
    have hget : ∀ i, i < Q.length + 1 → A[i]? = some (.int .i64 ((Q ++ [a]).getD i 0)) := by
      intro i hi
      rw [← hA, Array.getElem?_append_left (by simp; omega), ← Array.getElem?_toList, Array.toList_append]
      show (Q.map (Value.int .i64) ++ [Value.int .i64 a])[i]? = _
      have e : Q.map (Value.int .i64) ++ [Value.int .i64 a] = (Q ++ [a]).map (Value.int .i64) := by simp
      rw [e, List.getElem?_map, List.getD_eq_getElem?_getD, List.getElem?_eq_getElem (by simpa using hi)]
      rfl
    have hrow := World.rowIs_alloc w.drew A 3 (fun j => A.getD j (.bool true)) (fun i hi => by simp [Array.getD, hi])
    rw [hsz] at hrow
    refine ⟨_, _, hrun, ⟨w.heap.size, 0, grownCap w (Q.length + 1) c 3, _, fun j => A.getD j (.bool true), by rw [List.length_append]; rfl, hB, hrow, by omega, by rw [List.length_append]; simpa using hge, fun i hi => ?_⟩, ⟨rfl, rfl, rfl, by simp, fun k hk _ => Below.heap_alloc w.drew _ k hk⟩, .inr rfl⟩
    rw [List.length_append, List.length_singleton] at hi
    have h1 := hget i hi
    show A.getD (0 + i) _ = _
    rw [Nat.zero_add, Array.getD_eq_getD_getElem?, h1]; rfl
end Go.Proofs


set_option maxRecDepth 100000
set_option maxHeartbeats 4000000
namespace Go.Proofs
open Go.Shelf Go.RowKit Go.Lib Go.Abs
def FarIs (w : World) (ob cap n : Nat) (far : List Int) : Prop := ∃ f, w.rowIs ob 3 cap f ∧ ∀ i, i < n → f i = .int .i64 (far.getD i 0)
theorem FarIs.set {w : World} {ob cap n : Nat} {far : List Int} (h : FarIs w ob cap n far) (i : Nat) (v : Int) (hi : i < far.length) : FarIs (w.setCell ⟨ob, i, none⟩ (.int .i64 v)) ob cap n (far.set i v) := by
  obtain ⟨f, hr, hf⟩ := h
  refine ⟨_, hr.set i _, fun j hj => ?_⟩
  show (if j = i then _ else f j) = _
  rw [List.getD_eq_getElem?_getD, List.getElem?_set]
  by_cases e : j = i
  · subst e; rw [if_pos rfl]; simp [hi]
  · rw [if_neg e, hf j hj, if_neg (Ne.symm e)]; rfl
theorem FarIs.cell {w : World} {ob cap n : Nat} {far : List Int} (h : FarIs w ob cap n far) (hn : n ≤ cap) {i : Nat} (hi : i < n) : w.cell? ⟨ob, i, none⟩ = some (.int .i64 (far.getD i 0)) := by
  obtain ⟨f, hr, hf⟩ := h
  rw [hr.cell (by omega), hf i hi]
theorem FarIs.frozen {w : World} {ob cap n : Nat} {far : List Int} (h : FarIs w ob cap n far) (i : Nat) : w.frozen? ⟨ob, i, none⟩ = false := let ⟨_, hr, _⟩ := h; hr.frozen i
theorem FarIs.keep {w w' : World} {ob cap n : Nat} {far : List Int} {row : Option Nat} (h : FarIs w ob cap n far) (hg : w.grownBy w' row) (hne : row ≠ some ob) : FarIs w' ob cap n far := by
  obtain ⟨f, hr, hf⟩ := h
  exact ⟨f, hr.of_block (hg.block ob hr.lt (fun e => hne e.symm)), hf⟩
theorem FarIs.lt {w : World} {ob cap n : Nat} {far : List Int} (h : FarIs w ob cap n far) : ob < w.heap.size := let ⟨_, hr, _⟩ := h; hr.lt
theorem grown_set (w : World) (b i : Nat) (v : Value) : w.grownBy (w.setCell ⟨b, i, none⟩ v) (some b) :=
  ⟨rfl, rfl, rfl, by simp [World.setCell], fun k _ hne => Below.heap_setCell w ⟨b, i, none⟩ v k (fun e => hne (by rw [e]))⟩
theorem cleared {w : World} {b cap : Nat} : ∀ (k o : Nat) {w : World} {f : Nat → Value}, w.rowIs b 3 cap f → ∃ f', (w.setCells b o (List.replicate k (.int .i64 0))).rowIs b 3 cap f' ∧ (∀ j, o ≤ j → j < o + k → f' j = .int .i64 0) ∧ (∀ j, j < o → f' j = f j) ∧ w.grownBy (w.setCells b o (List.replicate k (.int .i64 0))) (some b)
  | 0, o, w, f, h => ⟨f, h, fun j h1 h2 => by omega, fun _ _ => rfl, ⟨rfl, rfl, rfl, Nat.le_refl _, fun _ _ _ => rfl⟩⟩
  | k + 1, o, w, f, h => by
    obtain ⟨f', h1, h2, h3, h4⟩ := cleared (w := w) k (o + 1) (h.set o (.int .i64 0))
    refine ⟨f', h1, fun j ha hb => ?_, fun j hj => ?_, grow_trans (grown_set w b o _) h4⟩
    · by_cases e : j = o
      · subst e; rw [h3 j (by omega), if_pos rfl]
      · exact h2 j (by omega) (by omega)
    · rw [h3 j (by omega), if_neg (by omega)]
structure StC (w : World) (ob cap n : Nat) (far : List Int) (v : Value) (Q : List Int) (wr : World) : Prop where
  out : FarIs wr ob cap n far
  q : QOwn wr w.heap.size v Q
  sane : Sane n far Q
  keep : w.grownBy wr (some ob)
  ql : zeros far + Q.length ≤ n
theorem StC.start {w : World} {ob cap n s : Nat} {W1 : World} (hcap : n ≤ cap) (hs : s < n) (hF : FarIs W1 ob cap n (List.replicate n 0)) (hg : w.grownBy W1 (some ob)) :
    StC w ob cap n ((List.replicate n (0 : Int)).set s 1) (.slice (some ⟨W1.heap.size, 0, none⟩) 1 1) [(s : Int)] ((W1.setCell ⟨ob, s, none⟩ (.int .i64 1)).alloc (.cells #[.int .i64 (s : Int)] 3)) := by
  have hse : (W1.setCell ⟨ob, s, none⟩ (.int .i64 1)).heap.size = W1.heap.size := by simp [World.setCell]
  have h1 := hF.set s 1 (by simpa using hs)
  have g1 := grow_trans hg (grown_set W1 ob s (.int .i64 1))
  have hsz : w.heap.size ≤ (W1.setCell ⟨ob, s, none⟩ (.int .i64 1)).heap.size := g1.size
  obtain ⟨f, hr, hf⟩ := h1
  have hrow := World.rowIs_alloc (W1.setCell ⟨ob, s, none⟩ (.int .i64 1)) #[.int .i64 (s : Int)] 3 (fun _ => .int .i64 (s : Int)) (fun i hi => by
    have : i = 0 := by simpa using hi
    subst this; rfl)
  have hq : QOwn ((W1.setCell ⟨ob, s, none⟩ (.int .i64 1)).alloc (.cells #[.int .i64 (s : Int)] 3)) w.heap.size (.slice (some ⟨(W1.setCell ⟨ob, s, none⟩ (.int .i64 1)).heap.size, 0, none⟩) 1 1) [(s : Int)] :=
    ⟨_, 0, 1, _, _, rfl, hsz, hrow, Nat.le_refl _, Nat.le_refl _, fun i hi => by
      have : i = 0 := by simpa using hi
      subst this; rfl⟩
  rw [hse] at hq
  refine ⟨⟨f, hr.alloc _, hf⟩, hq, (sane_start hs).1, ?_, by have := (sane_start hs).2; simp; omega⟩
  refine grow_trans g1 ⟨rfl, rfl, rfl, by show _ ≤ (Array.push _ _).size; rw [Array.size_push]; omega, fun k hk _ => Below.heap_alloc _ _ k hk⟩
theorem StC.popped {w wr : World} {ob cap n : Nat} {far : List Int} {v v' : Value} {b : Int} {Q : List Int} (A : StC w ob cap n far v (b :: Q) wr) (h : QOwn wr w.heap.size v' Q) : StC w ob cap n far v' Q wr :=
  ⟨A.out, h, ⟨A.sane.len, A.sane.pos, A.sane.top, fun a ha => A.sane.q0 a (List.mem_cons_of_mem _ ha)⟩, A.keep, by have := A.ql; simp only [List.length_cons] at this; omega⟩
theorem wpList_append_q {w : World} {ops : Array Oper} {rest : List Oper} {o : Oper} {a : Act} {Q : Exit → Act → World → Prop} (hgd : o.guard = none) (s x : Operand) (t : TypeId)
    (ho : o.op = .call { callee := .builtin .append, args := #[s, x], argTypes := #[23, 23] }) (B : Nat) (v : Value) (Qs : List Int) (hs : a.eval s = v) (hq : QOwn w B v Qs)
    (ad : Addr) (c1 : Nat) (av : Int) (hx : a.eval x = .slice (some ad) 1 c1) (hc : w.cell? ad = some (.int .i64 av)) (hB : B ≤ w.heap.size) (hl : Qs.length ≤ 1000000)
    (h : ∀ v' w', QOwn w' B v' (Qs ++ [av]) → w.grownBy w' v.ownBlock → wpList Try.prog ops Q rest (a.put o.dst v') w') : wpList Try.prog ops Q (o :: rest) a w := by
  refine wpList_plain hgd fun K hK => ?_
  obtain ⟨v', w', hr, h2, h3, _⟩ := run_append_q hq ad c1 av hc hB hl o.type
  unfold Oper.wp execOp
  simp only [ho, resolve, invoke, builtin, Sem.run_bind, Sem.run_pure, Result.andThen_ok, List.map_toArray, List.map_cons, List.map_nil, hs, hx, hr]
  exact hK _ _ (h v' w' h2 h3)
theorem newcell (w : World) (b i : Nat) (u x : Value) : ((w.setCell ⟨b, i, none⟩ u).alloc (.cells #[x] 3)).cell? ⟨w.heap.size, 0, none⟩ = some x := by
  have hse : (w.setCell ⟨b, i, none⟩ u).heap.size = w.heap.size := by simp [World.setCell]
  have := (World.rowIs_alloc (w.setCell ⟨b, i, none⟩ u) #[x] 3 (fun _ => x) (fun i hi => by
    have : i = 0 := by simpa using hi
    subst this; rfl)).cell (i := 0) (by simp)
  rwa [hse] at this
theorem QOwn.alloc' {w : World} {B ob an : Nat} {v : Value} {Q : List Int} {y x : Int} (h : QOwn w B v Q) (hob : ob < B) : QOwn ((w.setCell ⟨ob, an, none⟩ (.int .i64 y)).alloc (.cells #[.int .i64 x] 3)) B v Q := by
  obtain ⟨g, hh, c, N, f, hv, hB, hr, hN, hl, hf⟩ := h
  exact ⟨g, hh, c, N, f, hv, hB, (hr.setOther (show g ≠ ob by omega) _).alloc _, hN, hl, hf⟩
theorem StC.big {w wr : World} {ob cap n i : Nat} {far : List Int} {v u x : Value} {Q : List Int} (A : StC w ob cap n far v Q wr) : w.heap.size ≤ ((wr.setCell ⟨ob, i, none⟩ u).alloc (.cells #[x] 3)).heap.size := by
  have := A.keep.size
  show _ ≤ (Array.push _ _).size
  rw [Array.size_push]
  have : (wr.setCell ⟨ob, i, none⟩ u).heap.size = wr.heap.size := by simp [World.setCell]
  omega
theorem StC.push {w wi w2 : World} {ob cap n an bn : Nat} {far : List Int} {v v' : Value} {Q : List Int} (A : StC w ob cap n far v Q wi) (hn : n ≤ cap) (ha : an < n) (h0 : far.getD an 0 = 0)
    (hq : QOwn w2 w.heap.size v' (Q ++ [(an : Int)])) (hg : ((wi.setCell ⟨ob, an, none⟩ (.int .i64 (far.getD bn 0 + 1))).alloc (.cells #[.int .i64 (an : Int)] 3)).grownBy w2 v.ownBlock) (hob : ob < w.heap.size) :
    StC w ob cap n (far.set an (far.getD bn 0 + 1)) v' (Q ++ [(an : Int)]) w2 := by
  obtain ⟨g, _, _, _, _, hv, hBg, hrq, _⟩ := A.q
  have hvo : v.ownBlock = some g := by rw [hv]; rfl
  have hgl := hrq.lt
  have hse : (wi.setCell ⟨ob, an, none⟩ (.int .i64 (far.getD bn 0 + 1))).heap.size = wi.heap.size := by simp [World.setCell]
  have g1 : wi.grownBy ((wi.setCell ⟨ob, an, none⟩ (.int .i64 (far.getD bn 0 + 1))).alloc (.cells #[.int .i64 (an : Int)] 3)) (some ob) :=
    grow_trans (grown_set wi ob an _) ⟨rfl, rfl, rfl, by show _ ≤ (Array.push _ _).size; rw [Array.size_push]; omega, fun k hk _ => Below.heap_alloc _ _ k hk⟩
  have hk2 := A.keep.size
  refine ⟨?_, hq, ?_, ⟨hg.os.trans (g1.os.trans A.keep.os), hg.tape.trans (g1.tape.trans A.keep.tape), hg.output.trans (g1.output.trans A.keep.output), Nat.le_trans hk2 (Nat.le_trans g1.size hg.size), fun k hk hne => ?_⟩, ?_⟩
  · have h1 := A.out.set an (far.getD bn 0 + 1) (by rw [A.sane.len]; exact ha)
    obtain ⟨f, hr, hf⟩ := h1
    have h2 : FarIs ((wi.setCell ⟨ob, an, none⟩ (.int .i64 (far.getD bn 0 + 1))).alloc (.cells #[.int .i64 (an : Int)] 3)) ob cap n (far.set an (far.getD bn 0 + 1)) := ⟨f, hr.alloc _, hf⟩
    exact h2.keep hg (by rw [hvo]; intro e; injection e with e; omega)
  · have := A.sane.push (a := (an : Int)) (b := (bn : Int)) ⟨by omega, by omega⟩ h0
    exact this
  · have e1 := hg.block k (Nat.lt_of_lt_of_le hk (Nat.le_trans hk2 g1.size)) (by rw [hvo]; intro e; injection e with e; omega)
    have e2 := g1.block k (by omega) hne
    exact e1.trans (e2.trans (A.keep.block k hk hne))
  · have hz := zeros_set far an (far.getD bn 0 + 1) (by rw [A.sane.len]; exact ha) h0 (by have := A.sane.pos bn; omega)
    have := A.ql
    rw [List.length_append, List.length_singleton]; omega
theorem steps52 (n ob cap cap' s cb bb o : Nat) (back : List (List Int)) (w : World) (hn : n ≤ 100000) (hcap : n ≤ cap) (hs : s < n) (P : Nat → Option Addr) (Cb Bi Oi : Nat → Nat)
    (I : Aside ((∃ f, w.rowIs ob 3 cap f) ∧
      (∀ i, i < n → ∀ w', w.grownBy w' (some ob) → w'.cell? ⟨bb, o + i, none⟩ = some (.slice (P i) (back.getD i []).length (Cb i))) ∧
      (∀ i, i < n → (back.getD i []).length ≠ 0 → P i = some ⟨Bi i, Oi i, none⟩) ∧
      (∀ i, i < n → ∀ j, j < (back.getD i []).length → ∀ w', w.grownBy w' (some ob) → w'.cell? ⟨Bi i, Oi i + j, none⟩ = some (.int .i64 ((back.getD i []).getD j 0))) ∧
      (∀ i, i < n → (back.getD i []).length ≤ 100000 ∧ ∀ a ∈ back.getD i [], 0 ≤ a ∧ a < n))) :
    Calls Try.prog 52 #[.slice (some ⟨bb, o, none⟩) n cb, .int .i64 s, .slice (some ⟨ob, 0, none⟩) n cap'] w fun e w' => e = .returned (.tuple #[]) ∧ w.grownBy w' (some ob) ∧ FarIs w' ob cap n (stepsG back s n) := by
  obtain ⟨f0, hr0⟩ := I.out.1
  have hcl := fun ty => run_clear_slice (P := Try.prog) w 23 3 ty (.int .i64 0) Try.underlying23 (fun w => by kernel_rfl) rfl rfl ob 0 n cap' (by omega) (fun j hj => by rw [hr0.cell (by omega)]; rfl) (fun j _ => hr0.frozen _)
  obtain ⟨f1, hr1, hf1, _, hg1⟩ := cleared (w := w) n 0 hr0
  have c0 : (w.setCells ob 0 (List.replicate n (.int .i64 0))).cell? ⟨ob, s, none⟩ = some (.int .i64 0) := by rw [hr1.cell (by omega), hf1 s (by omega) (by omega)]
  have z0 := hr1.frozen s
  have hF : FarIs (w.setCells ob 0 (List.replicate n (.int .i64 0))) ob cap n (List.replicate n 0) := ⟨f1, hr1, fun i hi => by rw [hf1 i (by omega) (by omega)]; simp [List.getD, hi]⟩
  have K := aside0 (And.intro hF hg1)
  have hs' : (s : Int) < n := by omega
  have hob : Aside (ob < w.heap.size) := hr0.lt
  clear hr0 hr1 hf1 hg1 hF
  go_enter Try.func52, Try.ntmps52
  go_wp2
  have A0 := StC.start hcap hs K.out.1 K.out.2
  have Z0 := (sane_start hs).2
  have AA := aside0 (And.intro A0 Z0)
  clear A0 Z0 K c0 z0 hcl
  go_loopg [6] n (fun g v wr => ∃ far Q, g = zeros far + Q.length ∧ StC w ob cap n far v Q wr ∧ bfs back s (zeros far + Q.length) far Q = stepsG back s n)
  case atStart => exact ⟨(List.replicate n (0 : Int)).set s 1, [(s : Int)], AA.out.2.symm, (by first | exact AA.out.1 | (have hh := AA.out.1; simp only [Go.Sort.size_setCells] at hh; exact hh)), by rw [show [(s : Int)].length = 1 from rfl, AA.out.2]; rfl⟩
  case round =>
    obtain ⟨far, Q, hg, A, hR⟩ := hrel
    cases Q with
    | nil =>
      obtain ⟨g, h, c, _, f, rfl, _⟩ := A.q
      have e : far = stepsG back s n := by rw [← hR]; cases zeros far <;> rfl
      have AE := aside0 (And.intro A e)
      clear A hR hg e
      go_wp2
      go_end0
      exact ⟨rfl, AE.out.1.keep, by have := AE.out.1.out; rwa [AE.out.2] at this⟩
    | cons b Q =>
      obtain ⟨qg, qh, c, _, f, hv, _⟩ := A.q
      have hv : _ = Value.slice (some ⟨qg, qh, none⟩) (Q.length + 1) c := hv
      obtain ⟨hq, hq2, hcb, hc1⟩ := A.q.pop hv
      subst hv
      have hb := A.sane.q0 b List.mem_cons_self
      obtain ⟨bn, rfl⟩ : ∃ bn : Nat, b = bn := ⟨b.toNat, by omega⟩
      have hbn : bn < n := by omega
      have hbn' : (bn : Int) < n := by omega
      have hbk := I.out.2.1 bn hbn _ A.keep
      obtain ⟨L, hL⟩ : ∃ L, L = back.getD bn [] := ⟨_, rfl⟩
      obtain ⟨len, hlen⟩ : ∃ len, len = L.length := ⟨_, rfl⟩
      obtain ⟨pp, hpp⟩ : ∃ pp, pp = P bn := ⟨_, rfl⟩
      have PP : Aside (len ≠ 0 → pp = some ⟨Bi bn, Oi bn, none⟩) := fun h => by rw [hpp]; exact I.out.2.2.1 bn hbn (by rw [← hL, ← hlen]; exact h)
      rw [← hL, ← hlen, ← hpp] at hbk
      clear hpp
      have A1 := A.popped hq
      have A2 := fun e => A.popped (hq2 e)
      have AA2 := aside0 (And.intro (And.intro A1 A2) (And.intro hR (And.intro hg (And.intro hL hlen))))
      have hc1' : (1 : Int) ≤ (c : Int) := by omega
      have hq1 : (1 : Int) ≤ (Q.length : Int) + 1 := by omega
      clear A hR hg hq hq2 A1 A2 hL hlen AA hb
      have A3 : ∃ v, (v = Value.slice (some ⟨qg, if c = 1 then qh else qh + 1, none⟩) Q.length (c - 1)) ∧ StC w ob cap n far v Q wr := by
        by_cases hce : c = 1
        · exact ⟨_, rfl, by rw [if_pos hce, hce]; exact AA2.out.1.2 hce⟩
        · exact ⟨_, rfl, by rw [if_neg hce]; exact AA2.out.1.1⟩
      obtain ⟨v0, hv0, A3⟩ := A3
      have AA3 := aside0 (And.intro A3 AA2.out.2)
      clear AA2 A3
      by_cases hce : c = 1
      · subst hce
        rw [if_pos rfl] at hv0
        subst hv0
        have AA4 : Aside (StC w ob cap n far (.slice (some ⟨qg, qh, none⟩) Q.length 0) Q wr ∧ _) := AA3
        clear AA3
        go_wp2
        go_loopg [29, 6] len (fun g i v wi => ∃ (j : Nat) (far1 Q1 : List Int), j ≤ len ∧ g = len - j ∧ i = .int .i64 (j : Nat) ∧ StC w ob cap n far1 v Q1 wi ∧ bfsIn s bn (L.drop j) far1 Q1 = bfsIn s bn L far Q)
        case atStart => exact ⟨0, far, Q, Nat.zero_le _, rfl, rfl, AA4.out.1, rfl⟩
        case round =>
          obtain ⟨j, far1, Q1, hj, rfl, rfl, A, hR⟩ := hrel
          obtain ⟨hR0, hg0, hL, hlen⟩ := AA4.out.2
          by_cases hlt : j < len
          · have hlt' : (j : Int) < len := by omega
            have hjL : j < L.length := by omega
            obtain rfl := PP.out (by omega)
            have hce1 := I.out.2.2.2.1 bn hbn j (by rw [← hL]; omega) _ A.keep
            have hall := I.out.2.2.2.2 bn hbn
            rw [← hL] at hce1 hall
            have hmem : L[j] ∈ L := List.getElem_mem hjL
            obtain ⟨ha0, han⟩ := hall.2 _ hmem
            obtain ⟨an, hane⟩ : ∃ an : Nat, (an : Int) = L[j] := ⟨L[j].toNat, by omega⟩
            have hgd : L.getD j 0 = (an : Int) := by rw [hane]; simp [List.getD, hjL]
            rw [hgd] at hce1
            rw [← hane] at han
            have han' : an < n := by omega
            have hdrop : L.drop j = (an : Int) :: L.drop (j + 1) := by rw [hane]; exact List.drop_eq_getElem_cons hjL
            rw [hdrop, bfsIn] at hR
            have hll := hall.1
            have wj : IntKind.i64.wrap ((j : Int) + 1) = ((j + 1 : Nat) : Int) := by rw [Go.Abs.wrap_in (by omega) (by omega)]; omega
            have hQ1 : Q1.length ≤ 200000 := by have := A.ql; omega
            have hy0 := A.sane.pos bn
            have hy1 := A.sane.top bn
            have hz := zeros_le far1
            by_cases hgt : (an : Int) > s
            · have fa := A.out.cell hcap han'
              obtain ⟨x, hx⟩ : ∃ x, x = far1.getD an 0 := ⟨_, rfl⟩
              have hgx : getI far1 (an : Int) = x := by rw [hx]; rfl
              rw [hgx] at hR
              rw [← hx] at fa
              by_cases hx0 : x = 0
              · subst hx0
                rw [if_pos ⟨hgt, rfl⟩] at hR
                have fb := A.out.cell hcap hbn
                have fz := A.out.frozen an
                obtain ⟨y, hy⟩ : ∃ y, y = far1.getD bn 0 := ⟨_, rfl⟩
                have hgy : getI far1 (bn : Int) = y := by rw [hy]; rfl
                rw [hgy] at hR
                rw [← hy] at fb hy0 hy1
                have wy : IntKind.i64.wrap (y + 1) = y + 1 := Go.Abs.wrap_in (by omega) (by omega)
                have hqa := A.q.alloc' (ob := ob) (an := an) (y := y + 1) (x := (an : Int)) hob.out
                have M := aside0 (And.intro A (And.intro hR (And.intro hx.symm hy)))
                have hQ2 : Aside (Q1.length ≤ 1000000) := by exact Nat.le_trans hQ1 (by omega)
                have hsz : Aside (w.heap.size ≤ ((wr.setCell ⟨ob, an, none⟩ (.int .i64 (y + 1))).alloc (.cells #[.int .i64 (an : Int)] 3)).heap.size) := A.big
                have hcn : ((wr.setCell ⟨ob, an, none⟩ (.int .i64 (y + 1))).alloc (.cells #[.int .i64 (an : Int)] 3)).cell? ⟨wr.heap.size, 0, none⟩ = some (.int .i64 (an : Int)) := newcell _ _ _ _ _
                have QQ := aside0 (And.intro hqa hcn)
                clear A hR hx hy hgx hgy hmem hane hall hdrop hQ1 hy0 hy1 hz hgd ha0 hqa hcn hL hlen hR0 hg0 hjL
                go_wp2_with (at_builtin; refine wpList_append_q rfl _ _ 23 rfl w.heap.size _ Q1 rfl QQ.out.1 ⟨wr.heap.size, 0, none⟩ 1 an rfl QQ.out.2 hsz.out hQ2.out ?_; intro v' w2 hq2 hg2)
                have M2 := aside0 (StC.push M.out.1 hcap han' M.out.2.2.1 (bn := bn) hq2 (by rw [← M.out.2.2.2]; exact hg2) hob.out)
                clear hq2 hg2 fa fb fz QQ
                go_roundg (len - (j + 1))
                case rel => exact ⟨j + 1, _, _, hlt, rfl, by go_num, M2.out, by have := M.out.2.1; rw [← M.out.2.2.2]; exact this⟩
                case measure => omega
              · rw [if_neg (fun h => hx0 h.2)] at hR
                have M := aside0 (And.intro A hR)
                clear A hR hx hgx hmem hane hall hdrop hQ1 hy0 hy1 hz hgd ha0 hL hlen hR0 hg0 hjL
                go_wp2
                go_roundg (len - (j + 1))
                case rel => exact ⟨j + 1, _, _, hlt, rfl, by go_num, M.out.1, M.out.2⟩
                case measure => omega
            · rw [if_neg (fun h => hgt h.1)] at hR
              have M := aside0 (And.intro A hR)
              clear A hR hmem hane hall hdrop hQ1 hy0 hy1 hz hgd ha0 hL hlen hR0 hg0 hjL
              go_wp2
              go_roundg (len - (j + 1))
              case rel => exact ⟨j + 1, _, _, hlt, rfl, by go_num, M.out.1, M.out.2⟩
              case measure => omega
          · obtain rfl : j = len := by omega
            rw [hlen, List.drop_length, bfsIn] at hR
            obtain ⟨e1, e2⟩ : far1 = (bfsIn s bn L far Q).1 ∧ Q1 = (bfsIn s bn L far Q).2 := by rw [← hR]; exact ⟨rfl, rfl⟩
            have hb2 := bfsIn_sane s bn L far Q (by rw [hL]; exact (I.out.2.2.2.2 bn hbn).2) AA4.out.1.sane
            have hR1 : bfs back s (zeros far1 + Q1.length) far1 Q1 = stepsG back s n := by
              rw [← hR0]
              have e3 : zeros far + ((bn : Int) :: Q).length = (zeros far1 + Q1.length) + 1 := by
                rw [List.length_cons, e1, e2]; have := hb2.2; omega
              rw [e3, bfs, e1, e2, hL]; rfl
            have hgk : zeros far1 + Q1.length + 1 = gk := by rw [hg0, List.length_cons, e1, e2]; have := hb2.2; omega
            have M := aside0 (And.intro A (And.intro hR1 hgk))
            clear A hR hR0 hg0 hL hlen e1 e2 hb2 hR1 hgk
            go_wp2
            go_roundg (zeros far1 + Q1.length)
            case rel => exact ⟨far1, Q1, rfl, M.out.1, M.out.2.1⟩
            case measure => have := M.out.2.2; omega
      · rw [if_neg hce] at hv0
        subst hv0
        have AA4 := AA3
        clear AA3
        go_wp2
        go_loopg [29, 6] len (fun g i v wi => ∃ (j : Nat) (far1 Q1 : List Int), j ≤ len ∧ g = len - j ∧ i = .int .i64 (j : Nat) ∧ StC w ob cap n far1 v Q1 wi ∧ bfsIn s bn (L.drop j) far1 Q1 = bfsIn s bn L far Q)
        case atStart => exact ⟨0, far, Q, Nat.zero_le _, rfl, rfl, AA4.out.1, rfl⟩
        case round =>
          obtain ⟨j, far1, Q1, hj, rfl, rfl, A, hR⟩ := hrel
          obtain ⟨hR0, hg0, hL, hlen⟩ := AA4.out.2
          by_cases hlt : j < len
          · have hlt' : (j : Int) < len := by omega
            have hjL : j < L.length := by omega
            obtain rfl := PP.out (by omega)
            have hce1 := I.out.2.2.2.1 bn hbn j (by rw [← hL]; omega) _ A.keep
            have hall := I.out.2.2.2.2 bn hbn
            rw [← hL] at hce1 hall
            have hmem : L[j] ∈ L := List.getElem_mem hjL
            obtain ⟨ha0, han⟩ := hall.2 _ hmem
            obtain ⟨an, hane⟩ : ∃ an : Nat, (an : Int) = L[j] := ⟨L[j].toNat, by omega⟩
            have hgd : L.getD j 0 = (an : Int) := by rw [hane]; simp [List.getD, hjL]
            rw [hgd] at hce1
            rw [← hane] at han
            have han' : an < n := by omega
            have hdrop : L.drop j = (an : Int) :: L.drop (j + 1) := by rw [hane]; exact List.drop_eq_getElem_cons hjL
            rw [hdrop, bfsIn] at hR
            have hll := hall.1
            have wj : IntKind.i64.wrap ((j : Int) + 1) = ((j + 1 : Nat) : Int) := by rw [Go.Abs.wrap_in (by omega) (by omega)]; omega
            have hQ1 : Q1.length ≤ 200000 := by have := A.ql; omega
            have hy0 := A.sane.pos bn
            have hy1 := A.sane.top bn
            have hz := zeros_le far1
            by_cases hgt : (an : Int) > s
            · have fa := A.out.cell hcap han'
              obtain ⟨x, hx⟩ : ∃ x, x = far1.getD an 0 := ⟨_, rfl⟩
              have hgx : getI far1 (an : Int) = x := by rw [hx]; rfl
              rw [hgx] at hR
              rw [← hx] at fa
              by_cases hx0 : x = 0
              · subst hx0
                rw [if_pos ⟨hgt, rfl⟩] at hR
                have fb := A.out.cell hcap hbn
                have fz := A.out.frozen an
                obtain ⟨y, hy⟩ : ∃ y, y = far1.getD bn 0 := ⟨_, rfl⟩
                have hgy : getI far1 (bn : Int) = y := by rw [hy]; rfl
                rw [hgy] at hR
                rw [← hy] at fb hy0 hy1
                have wy : IntKind.i64.wrap (y + 1) = y + 1 := Go.Abs.wrap_in (by omega) (by omega)
                have hqa := A.q.alloc' (ob := ob) (an := an) (y := y + 1) (x := (an : Int)) hob.out
                have M := aside0 (And.intro A (And.intro hR (And.intro hx.symm hy)))
                have hQ2 : Aside (Q1.length ≤ 1000000) := by exact Nat.le_trans hQ1 (by omega)
                have hsz : Aside (w.heap.size ≤ ((wr.setCell ⟨ob, an, none⟩ (.int .i64 (y + 1))).alloc (.cells #[.int .i64 (an : Int)] 3)).heap.size) := A.big
                have hcn : ((wr.setCell ⟨ob, an, none⟩ (.int .i64 (y + 1))).alloc (.cells #[.int .i64 (an : Int)] 3)).cell? ⟨wr.heap.size, 0, none⟩ = some (.int .i64 (an : Int)) := newcell _ _ _ _ _
                have QQ := aside0 (And.intro hqa hcn)
                clear A hR hx hy hgx hgy hmem hane hall hdrop hQ1 hy0 hy1 hz hgd ha0 hqa hcn hL hlen hR0 hg0 hjL
                go_wp2_with (at_builtin; refine wpList_append_q rfl _ _ 23 rfl w.heap.size _ Q1 rfl QQ.out.1 ⟨wr.heap.size, 0, none⟩ 1 an rfl QQ.out.2 hsz.out hQ2.out ?_; intro v' w2 hq2 hg2)
                have M2 := aside0 (StC.push M.out.1 hcap han' M.out.2.2.1 (bn := bn) hq2 (by rw [← M.out.2.2.2]; exact hg2) hob.out)
                clear hq2 hg2 fa fb fz QQ
                go_roundg (len - (j + 1))
                case rel => exact ⟨j + 1, _, _, hlt, rfl, by go_num, M2.out, by have := M.out.2.1; rw [← M.out.2.2.2]; exact this⟩
                case measure => omega
              · rw [if_neg (fun h => hx0 h.2)] at hR
                have M := aside0 (And.intro A hR)
                clear A hR hx hgx hmem hane hall hdrop hQ1 hy0 hy1 hz hgd ha0 hL hlen hR0 hg0 hjL
                go_wp2
                go_roundg (len - (j + 1))
                case rel => exact ⟨j + 1, _, _, hlt, rfl, by go_num, M.out.1, M.out.2⟩
                case measure => omega
            · rw [if_neg (fun h => hgt h.1)] at hR
              have M := aside0 (And.intro A hR)
              clear A hR hmem hane hall hdrop hQ1 hy0 hy1 hz hgd ha0 hL hlen hR0 hg0 hjL
              go_wp2
              go_roundg (len - (j + 1))
              case rel => exact ⟨j + 1, _, _, hlt, rfl, by go_num, M.out.1, M.out.2⟩
              case measure => omega
          · obtain rfl : j = len := by omega
            rw [hlen, List.drop_length, bfsIn] at hR
            obtain ⟨e1, e2⟩ : far1 = (bfsIn s bn L far Q).1 ∧ Q1 = (bfsIn s bn L far Q).2 := by rw [← hR]; exact ⟨rfl, rfl⟩
            have hb2 := bfsIn_sane s bn L far Q (by rw [hL]; exact (I.out.2.2.2.2 bn hbn).2) AA4.out.1.sane
            have hR1 : bfs back s (zeros far1 + Q1.length) far1 Q1 = stepsG back s n := by
              rw [← hR0]
              have e3 : zeros far + ((bn : Int) :: Q).length = (zeros far1 + Q1.length) + 1 := by
                rw [List.length_cons, e1, e2]; have := hb2.2; omega
              rw [e3, bfs, e1, e2, hL]; rfl
            have hgk : zeros far1 + Q1.length + 1 = gk := by rw [hg0, List.length_cons, e1, e2]; have := hb2.2; omega
            have M := aside0 (And.intro A (And.intro hR1 hgk))
            clear A hR hR0 hg0 hL hlen e1 e2 hb2 hR1 hgk
            go_wp2
            go_roundg (zeros far1 + Q1.length)
            case rel => exact ⟨far1, Q1, rfl, M.out.1, M.out.2.1⟩
            case measure => have := M.out.2.2; omega
end Go.Proofs


set_option maxRecDepth 100000
set_option maxHeartbeats 4000000
namespace Go.Abs
open Go.Proofs Go.RowKit
theorem ints_slice {l : List Int} {w : World} {Z : Bk → Prop} {v : Value} (hv : PRep w Z (lstC 1 (ints l)) v) :
    ∃ q : Option Addr × Nat × Nat × Nat, v = .slice q.1 l.length q.2.1 ∧ (l.length ≠ 0 → q.1 = some ⟨q.2.2.1, q.2.2.2, none⟩ ∧ Z (1, q.2.2.1) ∧ ∀ j, j < l.length → w.cell? ⟨q.2.2.1, q.2.2.2 + j, none⟩ = some (.int .i64 (l.getD j 0))) := by
  unfold lstC at hv
  by_cases h0 : l = []
  · subst h0
    have h' : PRep w Z (.list 0 none []) v := hv
    generalize hc : C.list 0 none [] = c at h'
    cases h' with
    | nil => exact ⟨(none, 0, 0, 0), rfl, fun hk => absurd rfl hk⟩
    | emp _ _ a => exact ⟨(some a, 0, 0, 0), rfl, fun hk => absurd rfl hk⟩
    | list b o cap sz nl rws val =>
      injection hc with _ _ hr
      subst hr
      exact ⟨(some ⟨b, o, none⟩, cap, 0, 0), rfl, fun hk => absurd rfl hk⟩
    | _ => cases hc
  · have hne : ints l ≠ [] := by simpa [ints] using h0
    have e : (if (ints l).isEmpty = true then 0 else 1) = 1 := by
      rw [ints_isEmpty]; cases l with
      | nil => exact absurd rfl h0
      | cons => rfl
    rw [e] at hv
    generalize hc : C.list 1 none (ints l) = c at hv
    cases hv with
    | nil => injection hc with _ _ hr; exact absurd hr hne
    | emp => injection hc with _ _ hr; exact absurd hr hne
    | list b o cap sz nl rows val h1 h2 h3 h4 h5 h6 h7 =>
      injection hc with hs _ hr
      subst hs hr
      refine ⟨(some ⟨b, o, none⟩, cap, b, o), by rw [ints_len], fun _ => ⟨rfl, h4 hne, fun j hj => ?_⟩⟩
      have hr : (ints l)[j]? = some [.int .i64 (l.getD j 0)] := by simp [ints, hj, List.getD]
      have h8 := h6 j 0 _ _ hr rfl
      have h9 := prep_int (h7 j 0 _ _ hr rfl)
      rw [h9] at h8
      simpa using h8
    | _ => cases hc
theorem ill_slice {ls : List (List Int)} {w : World} {Z : Bk → Prop} {v : Value} (hv : PRep w Z (lstC 1 (ill ls)) v) (h0 : ls.length ≠ 0) :
    ∃ b o cap, v = .slice (some ⟨b, o, none⟩) ls.length cap ∧ Z (1, b) ∧ ∃ V : Nat → Value, ∀ i, i < ls.length → w.cell? ⟨b, o + i, none⟩ = some (V i) ∧ PRep w Z (lstC 1 (ints (ls.getD i []))) (V i) := by
  unfold lstC at hv
  have hne : ill ls ≠ [] := by intro h; exact h0 (by simpa [ill] using h)
  have e : (if (ill ls).isEmpty = true then 0 else 1) = 1 := by
    cases hh : ill ls with
    | nil => exact absurd hh hne
    | cons a r => rfl
  rw [e] at hv
  generalize hc : C.list 1 none (ill ls) = c at hv
  cases hv with
  | nil => injection hc with _ _ hr; exact absurd hr hne
  | emp => injection hc with _ _ hr; exact absurd hr hne
  | list b o cap sz nl rows val h1 h2 h3 h4 h5 h6 h7 =>
    injection hc with hs _ hr
    subst hs hr
    refine ⟨b, o, cap, by rw [ill_len], h4 hne, fun k => val k 0, fun k hk => ?_⟩
    have hr : (ill ls)[k]? = some [lstC 1 (ints (ls.getD k []))] := by simp [ill, encIs, hk, List.getD]
    refine ⟨?_, h7 k 0 _ _ hr rfl⟩
    have := h6 k 0 _ _ hr rfl
    simpa using this
  | _ => cases hc
theorem vs_three {vs : Array Value} (h : vs.size = 3) : ∃ a b c, vs = #[a, b, c] := by
  obtain ⟨l⟩ := vs
  match l, h with
  | [a, b, c], _ => exact ⟨a, b, c, rfl⟩
theorem g52 (n s τ : Nat) (back : List (List Int)) (far : List Int) (hn : n ≤ 100000) (hs : s < n) (hb : back.length = n) (hf : far.length = n) (hbk : ∀ l ∈ back, l.length ≤ 100000 ∧ ∀ a ∈ l, 0 ≤ a ∧ a < n) :
    SpecS Try.prog 52 [lst 1 (ill back), .int .i64 s, .k (.own τ)] (oneI 3 τ far) [τ] (fun r o' => r = .tup [] ∧ o' = oneI 3 τ (stepsG back s n)) := by
  refine ⟨callable_at (by kernel_rfl), fun w0 Z0 κ w vs hsz hi => ?_⟩
  obtain ⟨v0, v1, v2, rfl⟩ := vs_three hsz
  have ho : (oneI 3 τ far) τ = some (.arr 3 1 none (intRows far)) := by simp [oneI]
  have hno : ∀ s, s ≠ τ → oneI 3 τ far s = none := fun s hs => by simp [oneI, hs]
  have hob := hi.objs τ _ ho
  have t0 : VRep w (Zof w0 Z0 κ (oneI 3 τ far) w) κ (oneI 3 τ far) (lst 1 (ill back)) v0 := by simpa using hi.tmps 0
  have t1 : VRep w (Zof w0 Z0 κ (oneI 3 τ far) w) κ (oneI 3 τ far) (.int .i64 s) v1 := by simpa using hi.tmps 1
  have t2 : VRep w (Zof w0 Z0 κ (oneI 3 τ far) w) κ (oneI 3 τ far) (.k (.own τ)) v2 := by simpa using hi.tmps 2
  have e1 : v1 = .int .i64 s := prep_int t1.2
  subst e1
  rcases hob with ⟨_, hrows, _⟩ | ⟨b, cur, cap, hκ, hheap, h0, hcs, hlen, hcap, _, hall, hrr⟩
  · have : far = [] := by simpa [intRows] using hrows
    rw [this] at hf; simp at hf; omega
  obtain ⟨cap', hv, hcap'⟩ : ∃ cap', v2 = .slice (some ⟨b, 0, none⟩) n cap' ∧ cur.size = cap' * 1 := by
    rcases t2.2 3 1 none _ ho with ⟨hnn, _⟩ | ⟨b', cur', cap', hb', hh, hc2, hv⟩
    · rw [hκ] at hnn; cases hnn
    · rw [hκ] at hb'; cases hb'
      rw [hheap] at hh; cases hh
      exact ⟨cap', by rw [← hf]; simpa [intRows] using hv, hc2⟩
  subst hv
  have hlt : b < w.heap.size := heap_lt hheap
  obtain ⟨bb, o, cb, hv0, hZb, V, hV⟩ := ill_slice t0.2 (by omega)
  rw [hb] at hv0 hV
  subst hv0
  have hZne : ∀ x : Bk, Zof w0 Z0 κ (oneI 3 τ far) w x → x.2 ≠ b ∧ x.2 < w.heap.size := fun x hx => ⟨fun e => hx.2.2 τ (by rw [ho]; simp) (by rw [hκ, e]), hx.2.1⟩
  have hkeep : ∀ (x : Nat) (w' : World), x ≠ b → x < w.heap.size → w.grownBy w' (some b) → ∀ off, w'.cell? ⟨x, off, none⟩ = w.cell? ⟨x, off, none⟩ := fun x w' h1 h2 hg off =>
    World.cell?_of_block (w := w) (hg.block x h2 (fun e => h1 (by cases e; rfl)))
  obtain ⟨Q, hQ⟩ := Classical.skolem.1 (fun i : Nat => show ∃ q : Option Addr × Nat × Nat × Nat, i < n → V i = .slice q.1 (back.getD i []).length q.2.1 ∧ ((back.getD i []).length ≠ 0 → q.1 = some ⟨q.2.2.1, q.2.2.2, none⟩ ∧ Zof w0 Z0 κ (oneI 3 τ far) w (1, q.2.2.1) ∧ ∀ j, j < (back.getD i []).length → w.cell? ⟨q.2.2.1, q.2.2.2 + j, none⟩ = some (.int .i64 ((back.getD i []).getD j 0))) from by
    by_cases h : i < n
    · obtain ⟨q, hq⟩ := ints_slice (hV i h).2
      exact ⟨q, fun _ => hq⟩
    · exact ⟨(none, 0, 0, 0), fun h2 => absurd h2 h⟩)
  obtain ⟨z1, z2⟩ := hZne _ hZb
  have hfl : far.length ≤ cur.size := by
    have : (intRows far).length = far.length := by simp [intRows]
    rw [this] at hlen; omega
  refine (steps52 n b cur.size cap' s cb bb o back w hn (by omega) hs (fun i => (Q i).1) (fun i => (Q i).2.1) (fun i => (Q i).2.2.1) (fun i => (Q i).2.2.2)
    ⟨⟨fun i => cur.getD i (.bool true), cur, hheap, rfl, fun i hi => by simp [Array.getD, hi]⟩, fun i hi w' hg => ?_, fun i hi hl => ((hQ i hi).2 hl).1, fun i hi j hj w' hg => ?_, fun i hi => ?_⟩).mono ?_
  · rw [hkeep bb w' z1 z2 hg, (hV i hi).1, (hQ i hi).1]
  · obtain ⟨_, q2, q3⟩ := (hQ i hi).2 (by omega)
    obtain ⟨y1, y2⟩ := hZne _ q2
    rw [hkeep _ w' y1 y2 hg]
    exact q3 j hj
  · have : back.getD i [] ∈ back := by simp [List.getD, show i < back.length by omega]
    exact hbk _ this
  · rintro ex w' ⟨rfl, ⟨g1, g2, g3, g4, g5⟩, f, ⟨cur2, hh2, hsz2, hf2⟩, hff⟩
    have hsl : (stepsG back s n).length = n := by
      have hst := (sane_start hs).1
      have : ∀ (k : Nat) (far q : List Int), far.length = n → (∀ a ∈ q, True) → (bfs back s k far q).length = n := by
        intro k
        induction k with
        | zero => intro far q h _; exact h
        | succ k ih =>
          intro far q h _
          cases q with
          | nil => exact h
          | cons b q =>
            refine ih _ _ ?_ (fun _ _ => trivial)
            have : ∀ (l far q : List Int), (bfsIn s b l far q).1.length = far.length := by
              intro l
              induction l with
              | nil => intro far q; rfl
              | cons a l ih2 => intro far q; rw [bfsIn]; split; rw [ih2, List.length_set]; exact ih2 _ _
            rw [this, h]
      exact this n _ _ (by simp) (fun _ _ => trivial)
    have htk : cur2.toList.take (stepsG back s n).length = (stepsG back s n).map (Value.int .i64) := by
      rw [hsl]
      apply List.ext_getElem?
      intro i
      by_cases h : i < n
      · rw [List.getElem?_take_of_lt h, Array.getElem?_toList, hf2 i (by omega), hff i h, List.getElem?_map]
        rw [List.getD_eq_getElem?_getD, List.getElem?_eq_getElem (by omega)]; rfl
      · rw [List.getElem?_take_eq_none (by omega), List.getElem?_eq_none (by simp; omega)]
    have hll : (intRows far).length = n := by unfold intRows; rw [List.length_map]; exact hf
    have hll2 : (intRows (stepsG back s n)).length = n := by unfold intRows; rw [List.length_map]; exact hsl
    have hI := hi.moveG (τ := τ) (d := 0) (ob := .arr 3 1 none (intRows (stepsG back s n))) (v := .tup []) (u := .tuple #[]) (bo := some b) (w' := w') ho (by simp) g1 g2 g3 g4
      (fun k hk hne => g5 k hk (by rw [hκ] at hne; exact fun h => hne (by cases h; rfl))) (fun b' hb => .inr (by cases hb; exact hκ))
      (fun Z _ => .inr ⟨b, cur2, cap, by simp, hh2, by omega, by rw [hsz2]; exact hcs, by rw [hll2]; omega, hcap, by simp, rows_len _, rep_of_cells htk⟩) ⟨#[], rfl, rfl, trivial⟩
    have hO := hI.only (T := [τ]) (r := .tup []) (v := .tuple #[]) ⟨#[], rfl, rfl, trivial⟩ rfl (fun t ht ob hob => by
      simp only [List.mem_singleton] at ht
      subst ht
      simp [St.put, St.setO] at hob
      subst hob; rfl)
    have htab : tabIn [τ] (((({ t := fun s_1 => [lst 1 (ill back), .int .i64 s, .k (.own τ)].getD s_1 .any, o := oneI 3 τ far } : St).scrub τ).setO τ (.arr 3 1 none (intRows (stepsG back s n)))).put 0 (.tup [])).o = oneI 3 τ (stepsG back s n) := by
      funext t
      unfold tabIn oneI
      by_cases ht : t = τ
      · subst ht; simp [St.put, St.setO]
      · simp [ht]
    rw [htab] at hO
    refine ⟨.tuple #[], _, .tup [], _, rfl, ⟨rfl, rfl⟩, ?_, hO⟩
    intro t ht
    simp only [List.mem_singleton] at ht
    subst ht
    refine ⟨by simp [oneI, Like, hll, hll2], by simp [hκ], fun _ b' hb' cur0 e0 f0 hc0 => ?_⟩
    rw [hκ] at hb'; cases hb'
    rw [hheap] at hc0; cases hc0
    exact ⟨_, hh2, hsz2⟩
end Go.Abs


set_option maxRecDepth 100000
set_option maxHeartbeats 4000000
namespace Go.Abs
open Go.Proofs Go.RowKit
theorem call_steps {P : Program} {f e d τ : Nat} {args vs : List V} {xs : List AX} {K : KK} {ts : TS} {os : OS} {X : Prop} {nl : Option Bool} (l l' : List Int) (hs : SpecS P f args (oneI e τ l) [τ] (fun r o' => r = .tup [] ∧ o' = oneI e τ l')) (hv : vs.map V.nrm = args) (hw : vs.all (V.within [τ]) = true)
    (ho : lookO τ os = some (.arr e 1 nl (ints l))) (hk : K (insT d (.tup []) ts) (insO τ (.arr e 1 none (ints l')) os)) : X ∨ callSF P f vs xs K (some d) ts os := by
  refine .inr (.inl ?_)
  refine ⟨[τ], [τ], [], fun r o' => r = .tup [] ∧ o' = oneI e τ l', by simpa using hw, rfl, ?_, fun s hs => .inl hs, ?_, ?_⟩
  · intro s hs ob hob
    simp only [List.mem_singleton] at hs
    subst hs
    rw [ho] at hob; cases hob; rfl
  · have ho' : lookO τ os = some (.arr e 1 nl (intRows l)) := ho
    rw [tab_one ho']
    have e2 : (vs ++ List.map capV []).map V.nrm = args := by simpa using hv
    rw [e2]; exact hs
  · rintro r o' ⟨rfl, rfl⟩
    refine ⟨fun s hs => by simp at hs; simp [oneI, hs], rfl, within_one, ?_⟩
    show onS K (((mkS ts os).back [τ] [] (oneI e τ l')).put d (.tup []))
    rw [back_sort, mkS_put]; exact onS_mk hk
def edgeOk (n : Int) (p : Int × Int) : Bool := decide (0 ≤ p.1 ∧ p.1 < n ∧ 0 ≤ p.2 ∧ p.2 < n)
def rightG (n : Int) (l : List (Int × Int)) : Bool := decide (0 ≤ n ∧ n ≤ 300 ∧ (l.length : Int) ≤ 2000) && l.all (edgeOk n)
theorem rightG_yes {n : Int} {l : List (Int × Int)} (h : rightG n l = true) : (0 ≤ n ∧ n ≤ 300 ∧ (l.length : Int) ≤ 2000) ∧ ∀ p ∈ l, 0 ≤ p.1 ∧ p.1 < n ∧ 0 ≤ p.2 ∧ p.2 < n := by
  unfold rightG at h
  simp only [Bool.and_eq_true, decide_eq_true_eq, List.all_eq_true] at h
  exact ⟨h.1, fun p hp => by have := h.2 p hp; simpa [edgeOk] using this⟩
theorem right_no {n : Int} {l : List (Int × Int)} {p : Int × Int} (hp : p ∈ l) (h : ¬ (0 ≤ p.1 ∧ p.1 < n ∧ 0 ≤ p.2 ∧ p.2 < n)) : rightG n l = false := by
  unfold rightG
  rw [Bool.and_eq_false_iff]
  right
  rw [List.all_eq_false]
  exact ⟨p, hp, by simp [edgeOk]; omega⟩
theorem g50 (n : Int) (l : List (Int × Int)) : Spec Try.prog 50 [.int .i64 n, lst 2 (eds l)] (fun r => r = .bool (rightG n l)) := by
  refine Spec.of_awlS hf50 okf50 (by simp) fun S hS => ?_
  by_cases b1 : n < 0
  · simp only [b1, eds_len, normRows_eds, Qs, if_true, List.nodup_nil, Nat.reduceAdd, Nat.reduceBEq, uu f50.eq_1, vv f50r22.eq_1, uu f50b23.eq_1, uu f50b24.eq_1, vv f50r25.eq_1, uu f50b26.eq_1, uu f50b27.eq_1, vv f50r28.eq_1, uu f50b29.eq_1]
    refine fin hS ?_
    unfold rightG; rw [decide_eq_false (by omega)]; rfl
  by_cases b2 : n > 300
  · simp only [b1, b2, eds_len, normRows_eds, Qs, if_true, if_false, List.nodup_nil, Nat.reduceAdd, Nat.reduceBEq, uu f50.eq_1, vv f50r22.eq_1, uu f50b23.eq_1, uu f50b24.eq_1, vv f50r25.eq_1, uu f50b26.eq_1, uu f50b27.eq_1, vv f50r28.eq_1, uu f50b29.eq_1]
    refine fin hS ?_
    unfold rightG; rw [decide_eq_false (by omega)]; rfl
  by_cases b3 : (l.length : Int) > 2000
  · simp only [b1, b2, b3, eds_len, normRows_eds, Qs, if_true, if_false, List.nodup_nil, Nat.reduceAdd, Nat.reduceBEq, uu f50.eq_1, vv f50r22.eq_1, uu f50b23.eq_1, uu f50b24.eq_1, vv f50r25.eq_1, uu f50b26.eq_1, uu f50b27.eq_1, vv f50r28.eq_1, uu f50b29.eq_1]
    refine fin hS ?_
    unfold rightG; rw [decide_eq_false (by omega)]; rfl
  simp only [b1, b2, b3, eds_len, normRows_eds, Qs, if_true, if_false, Nat.reduceAdd, Nat.reduceBEq, uu f50.eq_1, uu f50b18.eq_1, vv f50r19.eq_1, uu f50b20.eq_1, uu f50b21.eq_1, uu f50b24.eq_1, vv f50r25.eq_1, uu f50b26.eq_1, uu f50b27.eq_1, vv f50r28.eq_1, uu f50b29.eq_1]
  rw [uu f50l17.eq_1]
  refine awl_loop (fun i : Nat => [(0, .int .i64 n), (18, lst 2 (eds l)), (19, .int .i64 l.length), (20, .int .i64 i)]) (fun _ => []) (fun i => i ≤ l.length ∧ (l.take i).all (edgeOk n) = true) (fun i => l.length - i) 0 rfl rfl ⟨Nat.zero_le _, rfl⟩ ?_
  rintro i ⟨hi, hd⟩
  by_cases hlt : i < l.length
  · have c1 : (i : Int) < l.length := by omega
    have c4 : IntKind.i64.wrap ((i : Int) + 1) = (i : Int) + 1 := wrap_in (by omega) (by omega)
    have z0 : (0 : Int).toNat = 0 := rfl
    have z1 : (1 : Int).toNat = 1 := rfl
    have hm := List.getElem_mem hlt
    by_cases h1 : l[i].1 < 0
    · simp only [c1, c4, h1, eds_len, eds_at hlt, normRows_eds, Qs, if_true, if_false, List.append_nil, List.nodup_nil, Nat.reduceAdd, Nat.reduceLeDiff, Nat.reduceBEq, Int.reduceLT, Int.reduceLE, vv f50r3.eq_1, vv f50r4.eq_1, uu f50b5.eq_1, uu f50b6.eq_1, vv f50r7.eq_1, uu f50b8.eq_1, vv f50r9.eq_1, uu f50b10.eq_1, uu f50b11.eq_1, uu f50b12.eq_1, uu f50b13.eq_1, uu f50b14.eq_1, vv f50r15.eq_1, uu f50b16.eq_1]
      exact fin hS (by rw [right_no hm (by omega)])
    by_cases h2 : l[i].1 ≥ n
    · simp only [c1, c4, h1, h2, eds_len, eds_at hlt, normRows_eds, Qs, if_true, if_false, List.append_nil, List.nodup_nil, Nat.reduceAdd, Nat.reduceLeDiff, Nat.reduceBEq, Int.reduceLT, Int.reduceLE, vv f50r3.eq_1, vv f50r4.eq_1, uu f50b5.eq_1, uu f50b6.eq_1, vv f50r7.eq_1, uu f50b8.eq_1, vv f50r9.eq_1, uu f50b10.eq_1, uu f50b11.eq_1, uu f50b12.eq_1, uu f50b13.eq_1, uu f50b14.eq_1, vv f50r15.eq_1, uu f50b16.eq_1]
      exact fin hS (by rw [right_no hm (by omega)])
    by_cases h3 : l[i].2 < 0
    · simp only [c1, c4, h1, h2, h3, eds_len, eds_at hlt, normRows_eds, Qs, if_true, if_false, List.append_nil, List.nodup_nil, Nat.reduceAdd, Nat.reduceLeDiff, Nat.reduceBEq, Int.reduceLT, Int.reduceLE, Int.reduceToNat, vv f50r3.eq_1, vv f50r4.eq_1, uu f50b5.eq_1, uu f50b6.eq_1, vv f50r7.eq_1, uu f50b8.eq_1, vv f50r9.eq_1, uu f50b10.eq_1, uu f50b11.eq_1, uu f50b12.eq_1, uu f50b13.eq_1, uu f50b14.eq_1, vv f50r15.eq_1, uu f50b16.eq_1]
      exact fin hS (by rw [right_no hm (by omega)])
    by_cases h4 : l[i].2 ≥ n
    · simp only [c1, c4, h1, h2, h3, h4, eds_len, eds_at hlt, normRows_eds, Qs, if_true, if_false, List.append_nil, List.nodup_nil, Nat.reduceAdd, Nat.reduceLeDiff, Nat.reduceBEq, Int.reduceLT, Int.reduceLE, Int.reduceToNat, vv f50r3.eq_1, vv f50r4.eq_1, uu f50b5.eq_1, uu f50b6.eq_1, vv f50r7.eq_1, uu f50b8.eq_1, vv f50r9.eq_1, uu f50b10.eq_1, uu f50b11.eq_1, uu f50b12.eq_1, uu f50b13.eq_1, uu f50b14.eq_1, vv f50r15.eq_1, uu f50b16.eq_1]
      exact fin hS (by rw [right_no hm (by omega)])
    · simp only [c1, c4, h1, h2, h3, h4, eds_len, eds_at hlt, normRows_eds, Qs, if_true, if_false, List.append_nil, Nat.reduceAdd, Nat.reduceLeDiff, Nat.reduceBEq, Int.reduceLT, Int.reduceLE, Int.reduceToNat, vv f50r3.eq_1, uu f50b6.eq_1, vv f50r7.eq_1, uu f50b8.eq_1, vv f50r9.eq_1, uu f50b10.eq_1, uu f50b11.eq_1, uu f50b12.eq_1, uu f50b13.eq_1, uu f50b14.eq_1, vv f50r15.eq_1, uu f50b16.eq_1]
      refine Next.intro (i + 1) rfl rfl ⟨by omega, ?_⟩ (by omega)
      rw [List.take_succ_eq_append_getElem hlt, List.all_append, hd]
      simp [edgeOk]; omega
  · obtain rfl : i = l.length := by omega
    have c1 : ¬ (l.length : Int) < l.length := by omega
    rw [List.take_length] at hd
    simp only [c1, eds_len, Qs, if_true, List.nodup_nil, Nat.reduceBEq, vv f50r1.eq_1, uu f50b2.eq_1, uu f50b13.eq_1, uu f50b14.eq_1, vv f50r15.eq_1, uu f50b16.eq_1]
    refine fin hS ?_
    unfold rightG; rw [decide_eq_true (by omega), hd]; rfl
def leastIn (s : Int) (far : List Int) : List Int → Int → Int
  | [], least => least
  | b :: l, least => leastIn s far l (if b ≥ s ∧ getI far b > 0 ∧ (least = 0 ∨ getI far b < least) then getI far b else least)
def findB (s : Int) (far : List Int) (left : Int) : List Int → Option Int
  | [] => none
  | b :: l => if b > s ∧ getI far b = left then some b else findB s far left l
def growB (to : List (List Int)) (s : Int) (far : List Int) (left : Int) (best : List Int) : List Int :=
  match findB s far left (to.getD (best.getD (best.length - 1) 0).toNat []) with
  | some b => best ++ [b]
  | none => best
def pathG (to : List (List Int)) (s : Int) (far : List Int) : Nat → List Int → List Int
  | 0, best => best
  | k + 1, best => pathG to s far k (growB to s far ((k : Int) + 2) best)
def cycStep (to back : List (List Int)) (n : Nat) (best : List Int) (s : Nat) : List Int :=
  let far := stepsG back s n
  let least := leastIn s far (to.getD s []) 0
  if least = 0 ∨ (best ≠ [] ∧ least ≥ best.length) then best else pathG to s far (least.toNat - 1) [(s : Int)]
def swapE (l : List (Int × Int)) : List (Int × Int) := l.map fun p => (p.2, p.1)
def cycleG (n : Nat) (l : List (Int × Int)) : List Int := (List.range n).foldl (cycStep (nextG n l) (nextG n (swapE l)) n) []
end Go.Abs


set_option maxRecDepth 100000
set_option maxHeartbeats 4000000
namespace Go.Abs
open Go.Proofs Go.RowKit
theorem eds_set (l : List (Int × Int)) (i : Nat) (a b : Int) : (eds l).set i [.int .i64 a, .int .i64 b] = eds (l.set i (a, b)) := by simp [eds, encE, List.map_set]
theorem eds_repl (n : Nat) : List.replicate n [C.int .i64 0, C.int .i64 0] = eds (List.replicate n (0, 0)) := by simp [eds, encE]
theorem ints_repl (n : Nat) : List.replicate n [C.int .i64 0] = ints (List.replicate n 0) := by simp [ints]
theorem swapE_len (l : List (Int × Int)) : (swapE l).length = l.length := by simp [swapE]
def halfS (l : List (Int × Int)) (i : Nat) : List (Int × Int) := (swapE l).take i ++ List.replicate (l.length - i) (0, 0)
theorem halfS_len {l : List (Int × Int)} {i : Nat} (h : i ≤ l.length) : (halfS l i).length = l.length := by simp [halfS, swapE_len]; omega
theorem halfS_next {l : List (Int × Int)} {i : Nat} (h : i < l.length) : (halfS l i).set i (l[i].2, l[i].1) = halfS l (i + 1) := by
  have hs : i < (swapE l).length := by rw [swapE_len]; exact h
  unfold halfS
  rw [List.take_succ_eq_append_getElem hs, show l.length - i = (l.length - (i + 1)) + 1 by omega, List.replicate_succ, List.set_append_right _ _ (by simp; omega)]
  have e : i - ((swapE l).take i).length = 0 := by simp; omega
  rw [e, List.set_cons_zero, List.append_assoc]
  simp [swapE]
def bstV : List Int → V
  | [] => .k (.own 11)
  | _ :: _ => .k (.own 107)
def bstO (far : List Int) (nl : Option Bool) : List Int → OS
  | [] => [(11, .arr 3 1 (some true) []), (49, .arr 3 1 nl (ints far))]
  | b :: l => [(49, .arr 3 1 nl (ints far)), (107, .arr 3 1 (some false) (ints (b :: l)))]
theorem bst_look (far : List Int) (nl : Option Bool) (best : List Int) : lookO 49 (bstO far nl best) = some (.arr 3 1 nl (ints far)) := by cases best <;> rfl
theorem bst_keep (far far' : List Int) (nl : Option Bool) (best : List Int) : keepO ((49, .arr 3 1 none (ints far')) :: bstO far nl best) [11, 25, 44, 47, 49, 107, 141, 45000, 45001, 45002, 48000, 48001, 48002] = bstO far' none best := by cases best <;> rfl
theorem bst_keep0 (far : List Int) (nl : Option Bool) (best : List Int) : keepO (bstO far nl best) [11, 25, 44, 47, 49, 107, 141, 45000, 45001, 45002, 48000, 48001, 48002] = bstO far nl best := by cases best <;> rfl
theorem mem_outs {l : List (Int × Int)} {i a : Int} (h : a ∈ outs l i) : ∃ p ∈ l, p.1 = i ∧ p.2 = a := by
  unfold outs at h
  have h1 : a ∈ sortI ((l.filter fun p => decide (p.1 = i)).map (·.2)) := by
    unfold Lib.compact Lib.compactUpTo at h
    obtain ⟨k, hk, rfl⟩ := List.mem_map.1 h
    have hk' := List.mem_range.1 (List.mem_filter.1 hk).1
    simp [getElem!_pos, hk']
  obtain ⟨p, hp, rfl⟩ := List.mem_map.1 (List.mem_mergeSort.1 h1)
  obtain ⟨hp1, hp2⟩ := List.mem_filter.1 hp
  exact ⟨p, hp1, of_decide_eq_true hp2, rfl⟩
theorem outs_len (l : List (Int × Int)) (i : Int) : (outs l i).length ≤ l.length := by
  unfold outs
  refine Nat.le_trans (compact_le _) ?_
  rw [show (sortI ((l.filter fun p => decide (p.1 = i)).map (·.2))).length = _ from List.length_mergeSort _, List.length_map]
  exact List.length_filter_le _ _
theorem nextG_at {n : Nat} {l : List (Int × Int)} {i : Nat} (h : i < n) : (nextG n l).getD i [] = outs l i := by simp [nextG, h]
theorem nextG_ok {n : Nat} {l : List (Int × Int)} (hl : l.length ≤ 2000) (hr : ∀ p ∈ l, 0 ≤ p.2 ∧ p.2 < n) : ∀ x ∈ nextG n l, x.length ≤ 2000 ∧ ∀ a ∈ x, 0 ≤ a ∧ a < n := by
  intro x hx
  obtain ⟨i, _, rfl⟩ := List.mem_map.1 hx
  refine ⟨Nat.le_trans (outs_len _ _) hl, fun a ha => ?_⟩
  obtain ⟨p, hp, _, rfl⟩ := mem_outs ha
  exact hr p hp
theorem leastIn_drop {L : List Int} {k : Nat} {s least : Int} {far : List Int} (h : k < L.length) : leastIn s far (L.drop k) least = leastIn s far (L.drop (k + 1)) (if L[k] ≥ s ∧ getI far L[k] > 0 ∧ (least = 0 ∨ getI far L[k] < least) then getI far L[k] else least) := by
  rw [List.drop_eq_getElem_cons h, leastIn]
theorem findB_drop {L : List Int} {k : Nat} {s left : Int} {far : List Int} (h : k < L.length) : findB s far left (L.drop k) = if L[k] > s ∧ getI far L[k] = left then some L[k] else findB s far left (L.drop (k + 1)) := by
  rw [List.drop_eq_getElem_cons h, findB]
theorem bfs_sane {n : Nat} {back : List (List Int)} (hb : ∀ x ∈ back, ∀ a ∈ x, 0 ≤ a ∧ a < (n : Int)) (s : Int) : ∀ (k : Nat) (far q : List Int), Sane n far q → ∃ q', Sane n (bfs back s k far q) q'
  | 0, far, q, h => ⟨q, h⟩
  | k + 1, far, [], h => ⟨[], h⟩
  | k + 1, far, b :: q, h => by
    rw [bfs]
    have h1 : Sane n far q := ⟨h.len, h.pos, h.top, fun a ha => h.q0 a (List.mem_cons_of_mem _ ha)⟩
    refine bfs_sane hb s k _ _ (bfsIn_sane s b _ far q (fun a ha => ?_) h1).1
    by_cases hl : b.toNat < back.length
    · exact hb _ (show back.getD b.toNat [] ∈ back by simp [List.getD, hl]) a ha
    · have : back.getD b.toNat [] = [] := by simp [List.getD, hl]
      rw [this] at ha; cases ha
theorem steps_facts {n s : Nat} {back : List (List Int)} (hs : s < n) (hb : ∀ x ∈ back, ∀ a ∈ x, 0 ≤ a ∧ a < (n : Int)) : (stepsG back s n).length = n ∧ ∀ i, 0 ≤ (stepsG back s n).getD i 0 ∧ (stepsG back s n).getD i 0 ≤ n := by
  obtain ⟨q, h⟩ := bfs_sane hb s n _ _ (sane_start hs).1
  exact ⟨h.len, fun i => ⟨h.pos i, by have := h.top i; have : (0 : Int) ≤ zeros (bfs back s n ((List.replicate n 0).set s 1) [(s : Int)]) := Int.natCast_nonneg _; show (bfs _ _ _ _ _).getD i 0 ≤ _; omega⟩⟩
theorem leastIn_le {n : Nat} {s : Int} {far : List Int} (hf : ∀ i, 0 ≤ far.getD i 0 ∧ far.getD i 0 ≤ n) : ∀ (L : List Int) (least : Int), 0 ≤ least ∧ least ≤ n → 0 ≤ leastIn s far L least ∧ leastIn s far L least ≤ n
  | [], _, h => h
  | b :: L, least, h => by
    rw [leastIn]
    refine leastIn_le hf L _ ?_
    split
    · exact hf _
    · exact h
theorem g41 (n : Nat) (l : List (Int × Int)) : Spec Try.prog 41 [.int .i64 n, lst 2 (eds l)] (fun r => r = lst 1 (ints (if rightG n l = true then cycleG n l else []))) := by
  refine Spec.of_len hf41 fun hlen => ?_
  have hll := len_lst (sz := 2) (rows := eds l) (by simp) hlen
  rw [eds_len] at hll
  clear hlen
  refine Spec.of_awlP hf41 okf41 (by simp) fun S hS => ?_
  have c50 := g50 n l
  simp only [normRows_eds, Qs, Nat.reduceAdd, Nat.reduceBEq, uu f41.eq_1, vv f41r100.eq_1, uu f41b101.eq_1, uu f41b102.eq_1, vv f41r103.eq_1, uu f41b104.eq_1]
  refine call_s c50 ?_
  cases hr : rightG n l with
  | false =>
    rw [hr, if_neg (by simp)] at hS
    simp only [normRows_eds, Qs, if_true, BEq.rfl, List.nodup_nil, List.nodup_cons, Nat.reduceBEq, List.not_mem_nil, vv f41r97.eq_1, uu f41b98.eq_1, uu f41b99.eq_1]
    exact hS _ rfl
  | true =>
    rw [hr, if_pos rfl] at hS
    obtain ⟨⟨_, hn3, hl2⟩, hrg⟩ := rightG_yes hr
    have hn : n ≤ 300 := by omega
    have b1 : (0 : Int) ≤ l.length := by omega
    have b2 : (16 : Int) * l.length ≤ 281474976710656 := by omega
    have b3 : (l.length : Int) ≤ 9223372036854775807 := by omega
    simp only [eds_len, eds_repl, normRows_eds, Qs, bne_iff_ne, ne_eq, Nat.reduceAdd, Nat.reduceEqDiff, Nat.reduceBEq, uu f41b91.eq_1, vv f41r92.eq_1, uu f41b93.eq_1, uu f41b94.eq_1, vv f41r95.eq_1, uu f41b96.eq_1, uu f41b99.eq_1]
    refine ⟨Int.le_refl _, b2, b3, ?_⟩
    rw [uu f41l90.eq_1]
    refine awl_loop (fun i : Nat => [(0, .int .i64 n), (1, lst 2 (eds l)), (5, .k (.own 25)), (26, lst 2 (eds l)), (27, .int .i64 l.length), (28, .int .i64 i)]) (fun i => [(25, .arr 59 2 (some false) (eds (halfS l i)))])
      (fun i => i ≤ l.length) (fun i => l.length - i) 0 rfl (by simp only [halfS, List.take_zero, List.nil_append, Nat.sub_zero, Int.toNat_natCast]; rfl) (Nat.zero_le _) ?_
    intro i hi
    by_cases hlt : i < l.length
    · have c1 : (i : Int) < l.length := by omega
      have c4 : IntKind.i64.wrap ((i : Int) + 1) = (i : Int) + 1 := wrap_in (by omega) (by omega)
      have hh := halfS_len hi
      simp only [c1, c4, eds_len, eds_at hlt, normRows_eds, hh, Qs, if_true, if_false, bne_iff_ne, ne_eq, List.append_nil, Nat.reduceAdd, Nat.reduceEqDiff, Nat.reduceLeDiff, Nat.reduceBEq, Int.reduceLT, Int.reduceLE, Int.reduceToNat, vv f41r80.eq_1, vv f41r81.eq_1, vv f41r82.eq_1, uu f41b83.eq_1, uu f41b84.eq_1, uu f41b85.eq_1, uu f41b86.eq_1, uu f41b87.eq_1, vv f41r88.eq_1, uu f41b89.eq_1]
      exact Next.intro (i + 1) rfl (by simp only [eds_set, halfS_next hlt]; rfl) (by omega) (by omega)
    · obtain rfl : i = l.length := by omega
      have c1 : ¬ (l.length : Int) < l.length := by omega
      have hfull : halfS l l.length = swapE l := by unfold halfS; rw [Nat.sub_self, List.take_of_length_le (by rw [swapE_len]; omega)]; simp
      have c51 := g51 n l (by omega) (by omega) (fun p hp => by have := hrg p hp; omega)
      have c51b := g51 n (swapE l) (by omega) (by rw [swapE_len]; omega) (fun p hp => by obtain ⟨q, hq, rfl⟩ := List.mem_map.1 hp; have := hrg q hq; show 0 ≤ q.2 ∧ q.2 < _; omega)
      simp only [c1, hfull, eds_len, normRows_eds, Qs, if_true, Nat.reduceBEq, vv f41r78.eq_1, uu f41b79.eq_1, uu f41b86.eq_1, uu f41b87.eq_1, vv f41r88.eq_1, uu f41b89.eq_1]
      refine call_l c51 ?_ (ha := by simp [lendL, lendO, lookO, V.norm, norm_list, lst, normRows_eds])
      simp only [normRows_eds, Qs, Nat.reduceBEq]
      refine call_l c51b ?_ (ha := by simp [lendL, lendO, lookO, V.norm, norm_list, lst, normRows_eds])
      simp only [normRows_eds, ints_repl, Qs, if_true, if_false, bne_iff_ne, ne_eq, Nat.reduceEqDiff, Nat.reduceBEq, uu f41b70.eq_1, vv f41r71.eq_1, uu f41b72.eq_1, uu f41b73.eq_1, vv f41r74.eq_1, uu f41b75.eq_1, vv f41r76.eq_1, uu f41b77.eq_1]
      have to1 := nextG_ok (n := n) (l := l) (by omega) (fun p hp => by have := hrg p hp; omega)
      have bk1 := nextG_ok (n := n) (l := swapE l) (by rw [swapE_len]; omega) (fun p hp => by obtain ⟨q, hq, rfl⟩ := List.mem_map.1 hp; have := hrg q hq; show 0 ≤ q.1 ∧ q.1 < _; omega)
      have tol := nextG_len n l
      have bkl := nextG_len n (swapE l)
      have hfold : ∀ m, m ≤ n → True := fun _ _ => trivial
      generalize hto : nextG n l = to at *
      generalize hbk : nextG n (swapE l) = bk at *
      have hcyc : cycleG n l = (List.range n).foldl (cycStep to bk n) [] := by unfold cycleG; rw [hto, hbk]
      rw [hcyc] at hS
      refine ⟨Int.le_refl _, by omega, by omega, ?_⟩
      rw [uu f41l69.eq_1]
      refine awl_loop (fun x : Nat × List Int × List Int × Option Bool => [(8, .list 1 none (ill to)), (9, .list 1 none (ill bk)), (10, .k (.own 49)), (11, bstV x.2.1), (50, .int .i64 n), (51, .int .i64 x.1)]) (fun x => bstO x.2.2.1 x.2.2.2 x.2.1)
        (fun x => x.1 ≤ n ∧ x.2.2.1.length = n ∧ x.2.1.length ≤ 301 ∧ x.2.1 = (List.range x.1).foldl (cycStep to bk n) []) (fun x => n - x.1) (0, [], List.replicate n 0, some false) rfl rfl ⟨Nat.zero_le _, by simp, by simp, rfl⟩ ?_
      rintro ⟨s, best, far0, nl⟩ ⟨hs, hfl, hbl, hbest⟩
      simp only [] at hs hfl hbl hbest
      by_cases hlt : s < n
      · have c1 : (s : Int) < n := by omega
        have c4 : IntKind.i64.wrap ((s : Int) + 1) = ((s + 1 : Nat) : Int) := by rw [wrap_in (by omega) (by omega)]; omega
        have c52 := g52 n s 49 bk far0 (by omega) hlt bkl hfl (fun x hx => by have := bk1 x hx; exact ⟨by omega, this.2⟩)
        obtain ⟨hf1, hf2⟩ := steps_facts hlt (fun x hx => (bk1 x hx).2)
        obtain ⟨L, hL⟩ : ∃ L, to.getD s [] = L := ⟨_, rfl⟩
        have hmem : L ∈ to := by rw [← hL]; simp [List.getD, show s < to.length by omega]
        have htl := to1 _ hmem
        have hat : (ill to).getD s [] = [lstC 1 (ints L)] := by rw [ill_at (by omega), ← hL]; simp [List.getD, show s < to.length by omega]
        obtain ⟨far, hfar⟩ : ∃ f, stepsG bk s n = f := ⟨_, rfl⟩
        have hstep : (List.range (s + 1)).foldl (cycStep to bk n) [] = if leastIn s far L 0 = 0 ∨ (best ≠ [] ∧ leastIn s far L 0 ≥ best.length) then best else pathG to s far ((leastIn s far L 0).toNat - 1) [(s : Int)] := by
          rw [List.range_succ, List.foldl_append, ← hbest, ← hL, ← hfar]; rfl
        rw [hfar] at c52 hf1 hf2
        simp only [c1, ill_len, normRows_ill, tol, Qs, if_true, Nat.reduceBEq, vv f41r3.eq_1, vv f41r59.eq_1, uu f41b60.eq_1, vv f41r61.eq_1, uu f41b62.eq_1, uu f41b63.eq_1, uu f41b64.eq_1, uu f41b65.eq_1, uu f41b66.eq_1, vv f41r67.eq_1, uu f41b68.eq_1]
        refine call_steps far0 _ c52 (by simp [V.nrm, Abs.K.nrm, norm_list, lst, normRows_ill]) (by simp [V.within, Abs.K.within]) (bst_look far0 nl best) ?_
        simp only [c1, hat, ill_len, ints_len, normRows_ill, tol, Qs, Nat.reduceBEq, uu f41b53.eq_1, vv f41r54.eq_1, uu f41b55.eq_1, uu f41b56.eq_1, vv f41r57.eq_1, uu f41b58.eq_1]
        rw [uu f41l52.eq_1]
        refine awl_loop (fun x : Nat × Int => [(8, .list 1 none (ill to)), (9, .list 1 none (ill bk)), (10, .k (.own 49)), (11, bstV best), (12, .int .i64 s), (13, .int .i64 x.2), (50, .int .i64 n), (51, .int .i64 s), (61, lst 1 (ints L)), (62, .int .i64 L.length), (63, .int .i64 x.1)]) (fun _ => bstO far none best)
          (fun x => x.1 ≤ L.length ∧ leastIn s far (L.drop x.1) x.2 = leastIn s far L 0) (fun x => L.length - x.1) (0, 0) rfl (bst_keep _ _ _ _) ⟨Nat.zero_le _, rfl⟩ ?_
        rintro ⟨k, least⟩ ⟨hk, hle⟩
        simp only [] at hk hle
        by_cases hkt : k < L.length
        · have d1 : (k : Int) < L.length := by omega
          have d4 : IntKind.i64.wrap ((k : Int) + 1) = (k : Int) + 1 := wrap_in (by omega) (by omega)
          rw [leastIn_drop hkt] at hle
          obtain ⟨hb0, hb1⟩ := htl.2 _ (List.getElem_mem hkt)
          have hLk : (ints L).getD k [] = [.int .i64 L[k]] := ints_at hkt
          generalize L[k] = b at hLk hle hb0 hb1
          have hbn : b.toNat < far.length := by omega
          have hfb : (ints far).getD b.toNat [] = [.int .i64 (getI far b)] := by rw [ints_at hbn]; simp [getI, List.getD, hbn]
          have hb2 : b < (far.length : Int) := by omega
          generalize getI far b = y at hfb hle
          by_cases g1 : b ≥ s
          case neg =>
            simp only [d1, d4, g1, bst_look, ints_len, hLk, hfb, Qs, if_true, Nat.reduceBEq, vv f41r39.eq_1, vv f41r40.eq_1, uu f41b41.eq_1, vv f41r42.eq_1, uu f41b43.eq_1, vv f41r44.eq_1, uu f41b45.eq_1, uu f41b46.eq_1, uu f41b47.eq_1, uu f41b48.eq_1, uu f41b49.eq_1, vv f41r50.eq_1, uu f41b51.eq_1]
            exact Next.intro (k + 1, least) rfl (bst_keep0 _ _ _) ⟨by show k + 1 ≤ L.length; omega, by rw [if_neg (fun h => g1 h.1)] at hle; exact hle⟩ (by show L.length - (k + 1) < L.length - k; omega)
          by_cases g2 : y > 0
          case neg =>
            simp only [d1, d4, g1, g2, hb0, hb2, bst_look, ints_len, hLk, hfb, Qs, if_true, Nat.reduceBEq, vv f41r39.eq_1, vv f41r40.eq_1, uu f41b41.eq_1, vv f41r42.eq_1, uu f41b43.eq_1, vv f41r44.eq_1, uu f41b45.eq_1, uu f41b46.eq_1, uu f41b47.eq_1, uu f41b48.eq_1, uu f41b49.eq_1, vv f41r50.eq_1, uu f41b51.eq_1]
            exact Next.intro (k + 1, least) rfl (bst_keep0 _ _ _) ⟨by show k + 1 ≤ L.length; omega, by rw [if_neg (fun h => g2 h.2.1)] at hle; exact hle⟩ (by show L.length - (k + 1) < L.length - k; omega)
          by_cases g3 : least = 0
          case pos =>
            have g3' : (least == 0) = true := by simpa using g3
            simp only [d1, d4, g1, g2, g3', hb0, hb2, bst_look, ints_len, hLk, hfb, Qs, if_true, Nat.reduceBEq, vv f41r39.eq_1, vv f41r40.eq_1, uu f41b41.eq_1, vv f41r42.eq_1, uu f41b43.eq_1, vv f41r44.eq_1, uu f41b45.eq_1, uu f41b46.eq_1, uu f41b47.eq_1, uu f41b48.eq_1, uu f41b49.eq_1, vv f41r50.eq_1, uu f41b51.eq_1]
            exact Next.intro (k + 1, y) rfl (bst_keep0 _ _ _) ⟨by show k + 1 ≤ L.length; omega, by rw [if_pos ⟨g1, g2, .inl g3⟩] at hle; exact hle⟩ (by show L.length - (k + 1) < L.length - k; omega)
          have g3' : (least == 0) = false := by simpa using g3
          by_cases g4 : y < least
          · simp only [d1, d4, g1, g2, g3', g4, hb0, hb2, bst_look, ints_len, hLk, hfb, Qs, if_true, if_false, Nat.reduceBEq, vv f41r39.eq_1, vv f41r40.eq_1, uu f41b41.eq_1, vv f41r42.eq_1, uu f41b43.eq_1, vv f41r44.eq_1, uu f41b45.eq_1, uu f41b46.eq_1, uu f41b47.eq_1, uu f41b48.eq_1, uu f41b49.eq_1, vv f41r50.eq_1, uu f41b51.eq_1]
            exact Next.intro (k + 1, y) rfl (bst_keep0 _ _ _) ⟨by show k + 1 ≤ L.length; omega, by rw [if_pos ⟨g1, g2, .inr g4⟩] at hle; exact hle⟩ (by show L.length - (k + 1) < L.length - k; omega)
          · simp only [d1, d4, g1, g2, g3', g4, hb0, hb2, bst_look, ints_len, hLk, hfb, Qs, if_true, if_false, Nat.reduceBEq, vv f41r39.eq_1, vv f41r40.eq_1, uu f41b41.eq_1, vv f41r42.eq_1, uu f41b43.eq_1, vv f41r44.eq_1, uu f41b45.eq_1, uu f41b46.eq_1, uu f41b47.eq_1, uu f41b48.eq_1, uu f41b49.eq_1, vv f41r50.eq_1, uu f41b51.eq_1]
            exact Next.intro (k + 1, least) rfl (bst_keep0 _ _ _) ⟨by show k + 1 ≤ L.length; omega, by rw [if_neg (fun h => h.2.2.elim g3 g4)] at hle; exact hle⟩ (by show L.length - (k + 1) < L.length - k; omega)
        · obtain rfl : k = L.length := by omega
          have d1 : ¬ (L.length : Int) < L.length := by omega
          rw [List.drop_length, leastIn] at hle
          rw [← hle] at hstep
          obtain ⟨le0, le1⟩ := leastIn_le hf2 L 0 ⟨by omega, by omega⟩ (s := (s : Int))
          rw [← hle] at le0 le1
          by_cases hz : least = 0
          case pos =>
            rw [if_pos (.inl hz)] at hstep
            subst hz
            simp only [d1, c4, ints_len, Qs, if_true, if_false, BEq.rfl, Nat.reduceEqDiff, Nat.reduceBEq, uu f41b35.eq_1, vv f41r36.eq_1, uu f41b37.eq_1, uu f41b38.eq_1, uu f41b48.eq_1, uu f41b49.eq_1, vv f41r50.eq_1, uu f41b51.eq_1]
            exact Next.intro (s + 1, best, far, none) rfl (bst_keep0 _ _ _) ⟨hlt, hf1, hbl, hstep.symm⟩ (by show n - (s + 1) < n - s; omega)
          have hz' : (least == 0) = false := by simpa using hz
          by_cases hge : best ≠ [] ∧ least ≥ best.length
          case pos =>
            rw [if_pos (.inr hge)] at hstep
            cases best with
            | nil => exact absurd rfl hge.1
            | cons b0 bt =>
              have hge2 : least ≥ ((b0 :: bt).length : Int) := hge.2
              generalize hbb : b0 :: bt = bb at *
              have e1 : bstV bb = .k (.own 107) := by rw [← hbb]; rfl
              have e2 : bstO far none bb = [(49, .arr 3 1 none (ints far)), (107, .arr 3 1 (some false) (ints bb))] := by rw [← hbb]; rfl
              simp only [d1, c4, hz', e1, e2, hge2, ints_len, Qs, if_true, if_false, Nat.reduceEqDiff, Nat.reduceBEq, uu f41b35.eq_1, vv f41r36.eq_1, uu f41b37.eq_1, uu f41b38.eq_1, uu f41b48.eq_1, uu f41b49.eq_1, vv f41r50.eq_1, uu f41b51.eq_1]
              exact Next.intro (s + 1, bb, far, none) (by simp only [e1]; rfl) (by simp only [e2]; rfl) ⟨hlt, hf1, hbl, hstep.symm⟩ (by show n - (s + 1) < n - s; omega)
          rw [if_neg (fun h => h.elim hz hge)] at hstep
          obtain ⟨m, hm⟩ : ∃ m : Nat, least = (m : Int) + 1 := ⟨least.toNat - 1, by omega⟩
          rw [show least.toNat - 1 = m by omega] at hstep
          have hor : best = [] ∨ (best ≠ [] ∧ ¬ least ≥ best.length) := by
            by_cases hb : best = []
            · exact .inl hb
            · exact .inr ⟨hb, fun h => hge ⟨hb, h⟩⟩
          have e12 : (best = [] ∧ bstV best = .k (.own 11) ∧ bstO far none best = [(11, .arr 3 1 (some true) []), (49, .arr 3 1 none (ints far))]) ∨ (¬ least ≥ best.length ∧ bstV best = .k (.own 107) ∧ bstO far none best = [(49, .arr 3 1 none (ints far)), (107, .arr 3 1 (some false) (ints best))]) := by
            cases best with
            | nil => exact .inl ⟨rfl, rfl, rfl⟩
            | cons b0 bt => exact .inr ⟨fun h => hge ⟨by simp, h⟩, rfl, rfl⟩
          rcases e12 with ⟨e0, e1, e2⟩ | ⟨e0, e1, e2⟩
          · subst e0
            simp only [d1, c4, hz', e1, e2, ints_len, Qs, q_keepO_eq_2, q_addO_eq_1, q_addO_eq_2, if_true, if_false, forall_eq, bne_iff_ne, ne_eq, List.mem_cons, Nat.reduceEqDiff, Nat.reduceLT, Nat.reduceBEq, List.not_mem_nil, uu f41b30.eq_1, vv f41r31.eq_1, uu f41b32.eq_1, vv f41r33.eq_1, uu f41b34.eq_1, uu f41b35.eq_1, vv f41r36.eq_1, uu f41b37.eq_1, uu f41b38.eq_1, uu f41b48.eq_1, uu f41b49.eq_1, vv f41r50.eq_1, uu f41b51.eq_1]
            rw [uu f41l29.eq_1]
            refine awl_loop (fun x : Nat × List Int => [(8, .list 1 none (ill to)), (9, .list 1 none (ill bk)), (10, .k (.own 49)), (11, .k (.own 107)), (12, .int .i64 s), (16, .int .i64 ((x.1 : Int) + 1)), (50, .int .i64 n), (51, .int .i64 s)]) (fun x => [(49, .arr 3 1 none (ints far)), (107, .arr 3 1 (some false) (ints x.2))])
              (fun x => x.2 ≠ [] ∧ (∀ a ∈ x.2, 0 ≤ a ∧ a < n) ∧ x.2.length + x.1 ≤ 301 ∧ pathG to s far x.1 x.2 = pathG to s far m [(s : Int)]) (fun x => x.1) (m, [(s : Int)]) (by rw [hm]; rfl) rfl ⟨by simp, by simp; omega, by simp; omega, rfl⟩ ?_
            rintro ⟨k, bs⟩ ⟨hb1, hb2, hb3, hb4⟩
            simp only [] at hb1 hb2 hb3 hb4
            cases k with
            | zero =>
              have z1 : ¬ ((0 : Nat) : Int) + 1 > 1 := by omega
              rw [pathG] at hb4
              rw [← hb4] at hstep
              simp only [z1, c4, Qs, if_true, if_false, ne_eq, Nat.reduceEqDiff, Nat.reduceBEq, Int.reduceGT, Int.reduceAdd, uu f41b25.eq_1, vv f41r26.eq_1, uu f41b27.eq_1, uu f41b28.eq_1]
              cases bs with
              | nil => exact absurd rfl hb1
              | cons b0 bt => exact Next.intro (s + 1, b0 :: bt, far, none) rfl rfl ⟨hlt, hf1, by show (b0 :: bt).length ≤ 301; omega, hstep.symm⟩ (by show n - (s + 1) < n - s; omega)
            | succ k =>
              obtain ⟨p, hp⟩ : ∃ p, bs.length = p + 1 := ⟨bs.length - 1, by have := List.length_pos_iff.2 hb1; omega⟩
              have z1 : ((k + 1 : Nat) : Int) + 1 > 1 := by omega
              have z2 : IntKind.i64.wrap (((p + 1 : Nat) : Int) - 1) = (p : Int) := by rw [wrap_in (by omega) (by omega)]; omega
              have z3 : IntKind.i64.wrap (((k + 1 : Nat) : Int) + 1 - 1) = (k : Int) + 1 := by rw [wrap_in (by omega) (by omega)]; omega
              obtain ⟨lb, hlb⟩ : ∃ lb, bs.getD p 0 = lb := ⟨_, rfl⟩
              have hla : (ints bs).getD p [] = [.int .i64 lb] := by rw [ints_at (by omega), ← hlb]; simp [List.getD, show p < bs.length by omega]
              have hlm : lb ∈ bs := by rw [← hlb]; simp [List.getD, show p < bs.length by omega]
              obtain ⟨lb0, lbn⟩ := hb2 lb hlm
              have z4 : (0 : Int) ≤ (p : Int) := by omega
              have z5 : (p : Int) < ((p + 1 : Nat) : Int) := by omega
              obtain ⟨M, hM⟩ : ∃ M, to.getD lb.toNat [] = M := ⟨_, rfl⟩
              have hMm : M ∈ to := by rw [← hM]; simp [List.getD, show lb.toNat < to.length by omega]
              have hMl := to1 _ hMm
              have hMa : (ill to).getD lb.toNat [] = [lstC 1 (ints M)] := by rw [ill_at (by omega), ← hM]; simp [List.getD, show lb.toNat < to.length by omega]
              have hgrow : growB to s far ((k : Int) + 2) bs = match findB s far ((k : Int) + 2) M with | some b => bs ++ [b] | none => bs := by
                unfold growB
                rw [hp, show p + 1 - 1 = p by omega, hlb, hM]
                try rfl
              rw [pathG] at hb4
              simp only [z1, z2, z4, z5, hla, hMa, hp, lb0, lbn, tol, ints_len, ill_len, normRows_ill, Int.toNat_natCast, Qs, if_true, ne_eq, Nat.reduceBEq, vv f41r4.eq_1, uu f41b20.eq_1, vv f41r21.eq_1, uu f41b22.eq_1, uu f41b23.eq_1, uu f41b24.eq_1, uu f41b25.eq_1, vv f41r26.eq_1, uu f41b27.eq_1, uu f41b28.eq_1]
              rw [uu f41l19.eq_1]
              refine awl_loop (fun j : Nat => [(8, .list 1 none (ill to)), (9, .list 1 none (ill bk)), (10, .k (.own 49)), (11, .k (.own 107)), (12, .int .i64 s), (16, .int .i64 (((k + 1 : Nat) : Int) + 1)), (50, .int .i64 n), (51, .int .i64 s), (121, lst 1 (ints M)), (122, .int .i64 M.length), (123, .int .i64 j)]) (fun _ => [(49, .arr 3 1 none (ints far)), (107, .arr 3 1 (some false) (ints bs))])
                (fun j => j ≤ M.length ∧ findB s far ((k : Int) + 2) (M.drop j) = findB s far ((k : Int) + 2) M) (fun j => M.length - j) 0 rfl rfl ⟨Nat.zero_le _, rfl⟩ ?_
              rintro j ⟨hj, hfd⟩
              by_cases hjt : j < M.length
              · have y1 : (j : Int) < M.length := by omega
                have y4 : IntKind.i64.wrap ((j : Int) + 1) = (j : Int) + 1 := wrap_in (by omega) (by omega)
                rw [findB_drop hjt] at hfd
                obtain ⟨w0, w1⟩ := hMl.2 _ (List.getElem_mem hjt)
                have hMj : (ints M).getD j [] = [.int .i64 M[j]] := ints_at hjt
                generalize M[j] = b at hMj hfd w0 w1
                have hbn : b.toNat < far.length := by omega
                have hfb : (ints far).getD b.toNat [] = [.int .i64 (getI far b)] := by rw [ints_at hbn]; simp [getI, List.getD, hbn]
                have hb2' : b < (far.length : Int) := by omega
                generalize getI far b = y at hfb hfd
                by_cases g1 : b > s
                case neg =>
                  simp only [y1, y4, g1, ints_len, hMj, hfb, Qs, if_true, Nat.reduceBEq, vv f41r5.eq_1, uu f41b8.eq_1, vv f41r9.eq_1, uu f41b10.eq_1, vv f41r11.eq_1, uu f41b12.eq_1, uu f41b13.eq_1, uu f41b14.eq_1, uu f41b15.eq_1, uu f41b16.eq_1, vv f41r17.eq_1, uu f41b18.eq_1]
                  exact Next.intro (j + 1) rfl rfl ⟨by omega, by rw [if_neg (fun h => g1 h.1)] at hfd; exact hfd⟩ (by omega)
                by_cases g2 : y = (((k + 1 : Nat) : Int) + 1)
                case neg =>
                  have g2' : (y == (((k + 1 : Nat) : Int) + 1)) = false := by simpa using g2
                  simp only [y1, y4, g1, g2', w0, hb2', ints_len, hMj, hfb, Qs, if_true, Nat.reduceBEq, vv f41r5.eq_1, uu f41b8.eq_1, vv f41r9.eq_1, uu f41b10.eq_1, vv f41r11.eq_1, uu f41b12.eq_1, uu f41b13.eq_1, uu f41b14.eq_1, uu f41b15.eq_1, uu f41b16.eq_1, vv f41r17.eq_1, uu f41b18.eq_1]
                  exact Next.intro (j + 1) rfl rfl ⟨by omega, by rw [if_neg (fun h => g2 (by rw [h.2]; push_cast; omega))] at hfd; exact hfd⟩ (by omega)
                have g2' : (y == (((k + 1 : Nat) : Int) + 1)) = true := by simpa using g2
                rw [if_pos ⟨g1, by rw [g2]; push_cast; omega⟩] at hfd
                rw [← hfd] at hgrow
                rw [hgrow] at hb4
                have q1 : bs.length + 1 ≤ 9223372036854775807 := by omega
                have q2 : (bs.length + 1) * 8 ≤ 140737488355328 := by omega
                simp only [y1, y4, g1, g2', z3, w0, hb2', q1, q2, ints_len, ints_snoc, hMj, hfb, Qs, if_true, if_false, forall_eq, bne_iff_ne, ne_eq, List.mem_cons, Nat.reduceEqDiff, Nat.reduceLT, Nat.reduceBEq, List.not_mem_nil, vv f41r5.eq_1, vv f41r6.eq_1, uu f41b7.eq_1, uu f41b8.eq_1, vv f41r9.eq_1, uu f41b10.eq_1, vv f41r11.eq_1, uu f41b12.eq_1, uu f41b13.eq_1, uu f41b14.eq_1, uu f41b15.eq_1, uu f41b16.eq_1, vv f41r17.eq_1, uu f41b18.eq_1]
                refine Next.intro (k, bs ++ [b]) rfl rfl ⟨by simp, ?_, by simp; omega, hb4⟩ (Nat.lt_succ_self k)
                intro a ha
                rcases List.mem_append.1 ha with ha | ha
                · exact hb2 a ha
                · rw [List.mem_singleton] at ha; rw [ha]; exact ⟨w0, w1⟩
              · obtain rfl : j = M.length := by omega
                have y1 : ¬ (M.length : Int) < M.length := by omega
                rw [List.drop_length, findB] at hfd
                rw [← hfd] at hgrow
                rw [hgrow] at hb4
                simp only [y1, z3, ints_len, Qs, if_true, if_false, Nat.reduceEqDiff, Nat.reduceBEq, uu f41b15.eq_1, uu f41b16.eq_1, vv f41r17.eq_1, uu f41b18.eq_1]
                exact Next.intro (k, bs) rfl rfl ⟨hb1, hb2, by show bs.length + k ≤ 301; omega, hb4⟩ (Nat.lt_succ_self k)
          · simp only [d1, c4, hz', e0, e1, e2, ints_len, Qs, q_keepO_eq_2, q_addO_eq_1, q_addO_eq_2, if_true, if_false, forall_eq, bne_iff_ne, ne_eq, List.mem_cons, Nat.reduceEqDiff, Nat.reduceLT, Nat.reduceBEq, List.not_mem_nil, uu f41b30.eq_1, vv f41r31.eq_1, uu f41b32.eq_1, vv f41r33.eq_1, uu f41b34.eq_1, uu f41b35.eq_1, vv f41r36.eq_1, uu f41b37.eq_1, uu f41b38.eq_1, uu f41b48.eq_1, uu f41b49.eq_1, vv f41r50.eq_1, uu f41b51.eq_1]
            rw [uu f41l29.eq_1]
            refine awl_loop (fun x : Nat × List Int => [(8, .list 1 none (ill to)), (9, .list 1 none (ill bk)), (10, .k (.own 49)), (11, .k (.own 107)), (12, .int .i64 s), (16, .int .i64 ((x.1 : Int) + 1)), (50, .int .i64 n), (51, .int .i64 s)]) (fun x => [(49, .arr 3 1 none (ints far)), (107, .arr 3 1 (some false) (ints x.2))])
              (fun x => x.2 ≠ [] ∧ (∀ a ∈ x.2, 0 ≤ a ∧ a < n) ∧ x.2.length + x.1 ≤ 301 ∧ pathG to s far x.1 x.2 = pathG to s far m [(s : Int)]) (fun x => x.1) (m, [(s : Int)]) (by rw [hm]; rfl) rfl ⟨by simp, by simp; omega, by simp; omega, rfl⟩ ?_
            rintro ⟨k, bs⟩ ⟨hb1, hb2, hb3, hb4⟩
            simp only [] at hb1 hb2 hb3 hb4
            cases k with
            | zero =>
              have z1 : ¬ ((0 : Nat) : Int) + 1 > 1 := by omega
              rw [pathG] at hb4
              rw [← hb4] at hstep
              simp only [z1, c4, Qs, if_true, if_false, ne_eq, Nat.reduceEqDiff, Nat.reduceBEq, Int.reduceGT, Int.reduceAdd, uu f41b25.eq_1, vv f41r26.eq_1, uu f41b27.eq_1, uu f41b28.eq_1]
              cases bs with
              | nil => exact absurd rfl hb1
              | cons b0 bt => exact Next.intro (s + 1, b0 :: bt, far, none) rfl rfl ⟨hlt, hf1, by show (b0 :: bt).length ≤ 301; omega, hstep.symm⟩ (by show n - (s + 1) < n - s; omega)
            | succ k =>
              obtain ⟨p, hp⟩ : ∃ p, bs.length = p + 1 := ⟨bs.length - 1, by have := List.length_pos_iff.2 hb1; omega⟩
              have z1 : ((k + 1 : Nat) : Int) + 1 > 1 := by omega
              have z2 : IntKind.i64.wrap (((p + 1 : Nat) : Int) - 1) = (p : Int) := by rw [wrap_in (by omega) (by omega)]; omega
              have z3 : IntKind.i64.wrap (((k + 1 : Nat) : Int) + 1 - 1) = (k : Int) + 1 := by rw [wrap_in (by omega) (by omega)]; omega
              obtain ⟨lb, hlb⟩ : ∃ lb, bs.getD p 0 = lb := ⟨_, rfl⟩
              have hla : (ints bs).getD p [] = [.int .i64 lb] := by rw [ints_at (by omega), ← hlb]; simp [List.getD, show p < bs.length by omega]
              have hlm : lb ∈ bs := by rw [← hlb]; simp [List.getD, show p < bs.length by omega]
              obtain ⟨lb0, lbn⟩ := hb2 lb hlm
              have z4 : (0 : Int) ≤ (p : Int) := by omega
              have z5 : (p : Int) < ((p + 1 : Nat) : Int) := by omega
              obtain ⟨M, hM⟩ : ∃ M, to.getD lb.toNat [] = M := ⟨_, rfl⟩
              have hMm : M ∈ to := by rw [← hM]; simp [List.getD, show lb.toNat < to.length by omega]
              have hMl := to1 _ hMm
              have hMa : (ill to).getD lb.toNat [] = [lstC 1 (ints M)] := by rw [ill_at (by omega), ← hM]; simp [List.getD, show lb.toNat < to.length by omega]
              have hgrow : growB to s far ((k : Int) + 2) bs = match findB s far ((k : Int) + 2) M with | some b => bs ++ [b] | none => bs := by
                unfold growB
                rw [hp, show p + 1 - 1 = p by omega, hlb, hM]
                try rfl
              rw [pathG] at hb4
              simp only [z1, z2, z4, z5, hla, hMa, hp, lb0, lbn, tol, ints_len, ill_len, normRows_ill, Int.toNat_natCast, Qs, if_true, ne_eq, Nat.reduceBEq, vv f41r4.eq_1, uu f41b20.eq_1, vv f41r21.eq_1, uu f41b22.eq_1, uu f41b23.eq_1, uu f41b24.eq_1, uu f41b25.eq_1, vv f41r26.eq_1, uu f41b27.eq_1, uu f41b28.eq_1]
              rw [uu f41l19.eq_1]
              refine awl_loop (fun j : Nat => [(8, .list 1 none (ill to)), (9, .list 1 none (ill bk)), (10, .k (.own 49)), (11, .k (.own 107)), (12, .int .i64 s), (16, .int .i64 (((k + 1 : Nat) : Int) + 1)), (50, .int .i64 n), (51, .int .i64 s), (121, lst 1 (ints M)), (122, .int .i64 M.length), (123, .int .i64 j)]) (fun _ => [(49, .arr 3 1 none (ints far)), (107, .arr 3 1 (some false) (ints bs))])
                (fun j => j ≤ M.length ∧ findB s far ((k : Int) + 2) (M.drop j) = findB s far ((k : Int) + 2) M) (fun j => M.length - j) 0 rfl rfl ⟨Nat.zero_le _, rfl⟩ ?_
              rintro j ⟨hj, hfd⟩
              by_cases hjt : j < M.length
              · have y1 : (j : Int) < M.length := by omega
                have y4 : IntKind.i64.wrap ((j : Int) + 1) = (j : Int) + 1 := wrap_in (by omega) (by omega)
                rw [findB_drop hjt] at hfd
                obtain ⟨w0, w1⟩ := hMl.2 _ (List.getElem_mem hjt)
                have hMj : (ints M).getD j [] = [.int .i64 M[j]] := ints_at hjt
                generalize M[j] = b at hMj hfd w0 w1
                have hbn : b.toNat < far.length := by omega
                have hfb : (ints far).getD b.toNat [] = [.int .i64 (getI far b)] := by rw [ints_at hbn]; simp [getI, List.getD, hbn]
                have hb2' : b < (far.length : Int) := by omega
                generalize getI far b = y at hfb hfd
                by_cases g1 : b > s
                case neg =>
                  simp only [y1, y4, g1, ints_len, hMj, hfb, Qs, if_true, Nat.reduceBEq, vv f41r5.eq_1, uu f41b8.eq_1, vv f41r9.eq_1, uu f41b10.eq_1, vv f41r11.eq_1, uu f41b12.eq_1, uu f41b13.eq_1, uu f41b14.eq_1, uu f41b15.eq_1, uu f41b16.eq_1, vv f41r17.eq_1, uu f41b18.eq_1]
                  exact Next.intro (j + 1) rfl rfl ⟨by omega, by rw [if_neg (fun h => g1 h.1)] at hfd; exact hfd⟩ (by omega)
                by_cases g2 : y = (((k + 1 : Nat) : Int) + 1)
                case neg =>
                  have g2' : (y == (((k + 1 : Nat) : Int) + 1)) = false := by simpa using g2
                  simp only [y1, y4, g1, g2', w0, hb2', ints_len, hMj, hfb, Qs, if_true, Nat.reduceBEq, vv f41r5.eq_1, uu f41b8.eq_1, vv f41r9.eq_1, uu f41b10.eq_1, vv f41r11.eq_1, uu f41b12.eq_1, uu f41b13.eq_1, uu f41b14.eq_1, uu f41b15.eq_1, uu f41b16.eq_1, vv f41r17.eq_1, uu f41b18.eq_1]
                  exact Next.intro (j + 1) rfl rfl ⟨by omega, by rw [if_neg (fun h => g2 (by rw [h.2]; push_cast; omega))] at hfd; exact hfd⟩ (by omega)
                have g2' : (y == (((k + 1 : Nat) : Int) + 1)) = true := by simpa using g2
                rw [if_pos ⟨g1, by rw [g2]; push_cast; omega⟩] at hfd
                rw [← hfd] at hgrow
                rw [hgrow] at hb4
                have q1 : bs.length + 1 ≤ 9223372036854775807 := by omega
                have q2 : (bs.length + 1) * 8 ≤ 140737488355328 := by omega
                simp only [y1, y4, g1, g2', z3, w0, hb2', q1, q2, ints_len, ints_snoc, hMj, hfb, Qs, if_true, if_false, forall_eq, bne_iff_ne, ne_eq, List.mem_cons, Nat.reduceEqDiff, Nat.reduceLT, Nat.reduceBEq, List.not_mem_nil, vv f41r5.eq_1, vv f41r6.eq_1, uu f41b7.eq_1, uu f41b8.eq_1, vv f41r9.eq_1, uu f41b10.eq_1, vv f41r11.eq_1, uu f41b12.eq_1, uu f41b13.eq_1, uu f41b14.eq_1, uu f41b15.eq_1, uu f41b16.eq_1, vv f41r17.eq_1, uu f41b18.eq_1]
                refine Next.intro (k, bs ++ [b]) rfl rfl ⟨by simp, ?_, by simp; omega, hb4⟩ (Nat.lt_succ_self k)
                intro a ha
                rcases List.mem_append.1 ha with ha | ha
                · exact hb2 a ha
                · rw [List.mem_singleton] at ha; rw [ha]; exact ⟨w0, w1⟩
              · obtain rfl : j = M.length := by omega
                have y1 : ¬ (M.length : Int) < M.length := by omega
                rw [List.drop_length, findB] at hfd
                rw [← hfd] at hgrow
                rw [hgrow] at hb4
                simp only [y1, z3, ints_len, Qs, if_true, if_false, Nat.reduceEqDiff, Nat.reduceBEq, uu f41b15.eq_1, uu f41b16.eq_1, vv f41r17.eq_1, uu f41b18.eq_1]
                exact Next.intro (k, bs) rfl rfl ⟨hb1, hb2, by show bs.length + k ≤ 301; omega, hb4⟩ (Nat.lt_succ_self k)
      · obtain rfl : s = n := by omega
        have c1 : ¬ (s : Int) < s := by omega
        rw [← hbest] at hS
        simp only [c1, Qs, if_true, Nat.reduceBEq, vv f41r1.eq_1, uu f41b2.eq_1, uu f41b65.eq_1, uu f41b66.eq_1, vv f41r67.eq_1, uu f41b68.eq_1]
        cases best with
        | nil =>
          simp only [bstV, bstO, Qs, if_true, List.nodup_nil, List.nodup_cons, List.not_mem_nil]
          exact hS _ rfl
        | cons b0 bt =>
          simp only [bstV, bstO, Qs, if_true, List.nodup_nil, List.nodup_cons, Nat.reduceBEq, List.not_mem_nil]
          exact hS _ (by simp [V.fz, V.nrm, Abs.K.fz, Abs.K.nrm, norm_list])
end Go.Abs


set_option maxRecDepth 100000
namespace Go.Abs
def wlk (E : Int → Int → Prop) (s : Int) : Nat → Int → Prop
  | 0, x => x = s
  | k + 1, x => ∃ b, E x b ∧ (b > s ∨ k = 0) ∧ wlk E s k b
theorem getI_set {l : List Int} {a x v : Int} (ha : 0 ≤ a) (hl : a.toNat < l.length) (hx : 0 ≤ x) : getI (l.set a.toNat v) x = if x = a then v else getI l x := by
  unfold getI
  rw [List.getD_eq_getElem?_getD, List.getElem?_set]
  by_cases h : x = a
  · subst h; simp [hl]
  · have : a.toNat ≠ x.toNat := by omega
    simp [h, this]
structure BI (E : Int → Int → Prop) (n : Nat) (s : Int) (far q : List Int) (b fb : Int) : Prop where
  len : far.length = n
  qr : ∀ a ∈ q, 0 ≤ a ∧ a < n ∧ fb ≤ getI far a
  sound : ∀ x : Int, 0 ≤ x → x < n → getI far x ≠ 0 → ∃ k : Nat, getI far x = (k : Int) + 1 ∧ wlk E s k x ∧ (x > s ∨ k = 0)
  closed : ∀ x : Int, 0 ≤ x → x < n → getI far x ≠ 0 → x ∈ q ∨ x = b ∨ ∀ a, E a x → a > s → getI far a ≠ 0 ∧ getI far a ≤ getI far x + 1
  sorted : q.Pairwise fun x y => getI far x ≤ getI far y
  top : ∀ x : Int, 0 ≤ x → x < n → getI far x ≤ fb + 1
  fbb : getI far b = fb
  fb1 : 1 ≤ fb
theorem bfsIn_BI {E : Int → Int → Prop} {n : Nat} {s b fb : Int} (hE : ∀ x y, E x y → 0 ≤ x ∧ x < n ∧ 0 ≤ y ∧ y < n) (hb : 0 ≤ b ∧ b < n) : ∀ (L far q : List Int), (∀ a ∈ L, E a b) → BI E n s far q b fb →
    BI E n s (bfsIn s b L far q).1 (bfsIn s b L far q).2 b fb ∧ (∀ a ∈ L, a > s → getI (bfsIn s b L far q).1 a ≠ 0) ∧ (∀ x : Int, 0 ≤ x → getI far x ≠ 0 → getI (bfsIn s b L far q).1 x = getI far x) ∧
      zeros (bfsIn s b L far q).1 + (bfsIn s b L far q).2.length = zeros far + q.length
  | [], far, q, _, h => ⟨h, fun a ha => absurd ha (by simp), fun _ _ _ => rfl, rfl⟩
  | a :: L, far, q, hL, h => by
    have hab := hL a List.mem_cons_self
    obtain ⟨ha0, han, _, _⟩ := hE a b hab
    have hL' : ∀ x ∈ L, E x b := fun x hx => hL x (List.mem_cons_of_mem _ hx)
    rw [bfsIn]
    by_cases hc : a > s ∧ getI far a = 0
    · rw [if_pos hc]
      have hal : a.toNat < far.length := by rw [h.len]; omega
      have hg := fun x hx => getI_set (l := far) (a := a) (x := x) (v := getI far b + 1) ha0 hal hx
      have hab2 : b ≠ a := fun e => by have := h.fbb; rw [e, hc.2] at this; have := h.fb1; omega
      have hnew : BI E n s (far.set a.toNat (getI far b + 1)) (q ++ [a]) b fb := by
        have hfb := h.fbb
        refine ⟨by rw [List.length_set]; exact h.len, fun x hx => ?_, fun x h0 h1 hx => ?_, fun x h0 h1 hx => ?_, ?_, fun x h0 h1 => ?_, ?_, h.fb1⟩
        · rcases List.mem_append.1 hx with hx | hx
          · obtain ⟨q1, q2, q3⟩ := h.qr x hx
            refine ⟨q1, q2, ?_⟩
            rw [hg x q1]; split
            · omega
            · exact q3
          · rw [List.mem_singleton] at hx; subst hx
            refine ⟨ha0, han, ?_⟩
            rw [hg x ha0, if_pos rfl]; omega
        · rw [hg x h0] at hx ⊢
          by_cases e : x = a
          · rw [if_pos e]; subst e
            obtain ⟨k, hk1, hk2, hk3⟩ := h.sound b hb.1 hb.2 (by have := h.fb1; omega)
            refine ⟨k + 1, by rw [hk1]; push_cast; rfl, ⟨b, hab, hk3, hk2⟩, .inl hc.1⟩
          · rw [if_neg e] at hx ⊢
            exact h.sound x h0 h1 hx
        · rw [hg x h0] at hx
          by_cases e : x = a
          · subst e; exact .inl (by simp)
          · rw [if_neg e] at hx
            rcases h.closed x h0 h1 hx with c | c | c
            · exact .inl (List.mem_append_left _ c)
            · exact .inr (.inl c)
            · refine .inr (.inr fun y hy hys => ?_)
              obtain ⟨c1, c2⟩ := c y hy hys
              rw [hg y (hE _ _ hy).1, hg x h0, if_neg e, if_neg (fun e2 => c1 (by rw [e2]; exact hc.2))]
              exact ⟨c1, c2⟩
        · rw [List.pairwise_append]
          refine ⟨?_, List.pairwise_singleton _ _, fun x hx y hy => ?_⟩
          · refine List.Pairwise.imp_of_mem ?_ h.sorted
            intro x y hx hy hxy
            obtain ⟨x1, _, x3⟩ := h.qr x hx
            obtain ⟨y1, _, y3⟩ := h.qr y hy
            have := h.fb1
            rw [hg x x1, hg y y1, if_neg (fun e => by rw [e, hc.2] at x3; omega), if_neg (fun e => by rw [e, hc.2] at y3; omega)]
            exact hxy
          · rw [List.mem_singleton] at hy; subst hy
            obtain ⟨x1, x2, x3⟩ := h.qr x hx
            have := h.fb1
            rw [hg x x1, hg y ha0, if_neg (fun e => by rw [e, hc.2] at x3; omega), if_pos rfl, hfb]
            exact h.top x x1 x2
        · rw [hg x h0]; split
          · omega
          · exact h.top x h0 h1
        · rw [hg b hb.1, if_neg hab2]; exact hfb
      obtain ⟨i1, i2, i3, i4⟩ := bfsIn_BI hE hb L _ _ hL' hnew
      have hfa : getI (far.set a.toNat (getI far b + 1)) a ≠ 0 := by
        rw [hg a ha0, if_pos rfl, h.fbb]; have := h.fb1; omega
      refine ⟨i1, fun x hx hxs => ?_, fun x h0 hx => ?_, ?_⟩
      · rcases List.mem_cons.1 hx with e | hx
        · subst e
          rw [i3 x ha0 hfa]; exact hfa
        · exact i2 x hx hxs
      · have e : x ≠ a := fun e => hx (by rw [e]; exact hc.2)
        have := hg x h0
        rw [if_neg e] at this
        rw [i3 x h0 (by rw [this]; exact hx), this]
      · rw [i4, List.length_append, List.length_singleton]
        have := zeros_set far a.toNat (getI far b + 1) hal hc.2 (by rw [h.fbb]; have := h.fb1; omega)
        omega
    · rw [if_neg hc]
      obtain ⟨i1, i2, i3, i4⟩ := bfsIn_BI hE hb L _ _ hL' h
      refine ⟨i1, fun x hx hxs => ?_, i3, i4⟩
      rcases List.mem_cons.1 hx with e | hx
      · subst e
        have hfx : getI far x ≠ 0 := fun e => hc ⟨hxs, e⟩
        rw [i3 x ha0 hfx]; exact hfx
      · exact i2 x hx hxs
structure BS (E : Int → Int → Prop) (n : Nat) (s : Int) (far q : List Int) : Prop where
  len : far.length = n
  qr : ∀ a ∈ q, 0 ≤ a ∧ a < n ∧ getI far a ≠ 0
  sound : ∀ x : Int, 0 ≤ x → x < n → getI far x ≠ 0 → ∃ k : Nat, getI far x = (k : Int) + 1 ∧ wlk E s k x ∧ (x > s ∨ k = 0)
  closed : ∀ x : Int, 0 ≤ x → x < n → getI far x ≠ 0 → x ∈ q ∨ ∀ a, E a x → a > s → getI far a ≠ 0 ∧ getI far a ≤ getI far x + 1
  sorted : q.Pairwise fun x y => getI far x ≤ getI far y
  top : ∀ b ∈ q.head?, ∀ x : Int, 0 ≤ x → x < n → getI far x ≤ getI far b + 1
  fs : getI far s = 1
theorem bfs_BS {E : Int → Int → Prop} {n : Nat} {s : Int} {back : List (List Int)} (h0s : 0 ≤ s) (hE : ∀ x y, E x y → 0 ≤ x ∧ x < n ∧ 0 ≤ y ∧ y < n) (hbk : ∀ b : Int, 0 ≤ b → b < n → ∀ a, a ∈ back.getD b.toNat [] ↔ E a b) :
    ∀ (k : Nat) (far q : List Int), zeros far + q.length ≤ k → BS E n s far q → BS E n s (bfs back s k far q) []
  | 0, far, q, hk, h => by
    have : q = [] := List.eq_nil_of_length_eq_zero (by omega)
    subst this; exact h
  | k + 1, far, [], _, h => h
  | k + 1, far, b :: q, hk, h => by
    rw [bfs]
    obtain ⟨b0, bn, bne⟩ := h.qr b List.mem_cons_self
    obtain ⟨kb, hkb, _⟩ := h.sound b b0 bn bne
    have hp := List.pairwise_cons.1 h.sorted
    have hBI : BI E n s far q b (getI far b) := ⟨h.len, fun a ha => let ⟨q1, q2, _⟩ := h.qr a (List.mem_cons_of_mem _ ha); ⟨q1, q2, hp.1 a ha⟩, h.sound, fun x x0 xn hx => by
        rcases h.closed x x0 xn hx with c | c
        · rcases List.mem_cons.1 c with c | c
          · exact .inr (.inl c)
          · exact .inl c
        · exact .inr (.inr c), hp.2, h.top b rfl, rfl, by omega⟩
    obtain ⟨i1, i2, i3, i4⟩ := bfsIn_BI hE ⟨b0, bn⟩ (back.getD b.toNat []) far q (fun a ha => (hbk b b0 bn a).1 ha) hBI
    refine bfs_BS h0s hE hbk k _ _ (by rw [i4]; simp only [List.length_cons] at hk; omega) ?_
    refine ⟨i1.len, fun a ha => let ⟨q1, q2, q3⟩ := i1.qr a ha; ⟨q1, q2, by omega⟩, i1.sound, fun x x0 xn hx => ?_, i1.sorted, fun c hc x x0 xn => ?_, by rw [i3 s h0s (by rw [h.fs]; decide)]; exact h.fs⟩
    · rcases i1.closed x x0 xn hx with c | c | c
      · exact .inl c
      · refine .inr fun a ha has => ?_
        subst c
        have h1 := i2 a ((hbk x x0 xn a).2 ha) has
        refine ⟨h1, ?_⟩
        rw [i1.fbb]
        exact i1.top a (hE _ _ ha).1 (hE _ _ ha).2.1
      · exact .inr c
    · have hc' : c ∈ (bfsIn s b (back.getD b.toNat []) far q).2 := List.mem_of_mem_head? hc
      have := (i1.qr c hc').2.2
      have := i1.top x x0 xn
      omega
theorem steps_right {E : Int → Int → Prop} {n s : Nat} {back : List (List Int)} (hs : s < n) (hE : ∀ x y, E x y → 0 ≤ x ∧ x < n ∧ 0 ≤ y ∧ y < n) (hbk : ∀ b : Int, 0 ≤ b → b < n → ∀ a, a ∈ back.getD b.toNat [] ↔ E a b) :
    (stepsG back s n).length = n ∧ getI (stepsG back s n) s = 1 ∧
    (∀ x : Int, 0 ≤ x → x < n → getI (stepsG back s n) x ≠ 0 → ∃ k : Nat, getI (stepsG back s n) x = (k : Int) + 1 ∧ wlk E s k x ∧ (x > s ∨ k = 0)) ∧
    (∀ (k : Nat) x, wlk E s k x → (x > s ∨ k = 0) → getI (stepsG back s n) x ≠ 0 ∧ getI (stepsG back s n) x ≤ (k : Int) + 1) := by
  have hz0 : zeros (List.replicate n (0 : Int)) = n := by unfold zeros; rw [List.filter_replicate]; simp
  have hz := zeros_set (List.replicate n (0 : Int)) s 1 (by simpa using hs) (by simp [List.getD, hs]) (by decide)
  have hg : ∀ x : Int, 0 ≤ x → getI ((List.replicate n (0 : Int)).set s 1) x = if x = s then 1 else 0 := by
    intro x hx
    have h := getI_set (l := List.replicate n (0 : Int)) (a := s) (x := x) (v := 1) (by omega) (by simpa using hs) hx
    rw [show ((s : Int)).toNat = s from rfl] at h
    rw [h]
    split
    · rfl
    · unfold getI; rw [List.getD_eq_getElem?_getD, List.getElem?_replicate]; split <;> rfl
  have h := bfs_BS (s := s) (by omega) hE hbk n ((List.replicate n (0 : Int)).set s 1) [(s : Int)] (by simp only [List.length_singleton]; omega)
    ⟨by simp, fun a ha => by rw [List.mem_singleton] at ha; subst ha; exact ⟨by omega, by omega, by rw [hg _ (by omega), if_pos rfl]; decide⟩, fun x x0 xn hx => by
      rw [hg x x0] at hx ⊢
      by_cases e : x = s
      · rw [if_pos e]; exact ⟨0, rfl, e, .inr rfl⟩
      · rw [if_neg e] at hx; exact absurd rfl hx, fun x x0 xn hx => by
      rw [hg x x0] at hx
      by_cases e : x = s
      · exact .inl (by rw [e]; exact List.mem_singleton_self _)
      · rw [if_neg e] at hx; exact absurd rfl hx, List.pairwise_singleton _ _, fun b hb x x0 xn => by
      simp only [List.head?_cons, Option.mem_def, Option.some.injEq] at hb
      subst hb
      rw [hg x x0, hg _ (by omega), if_pos rfl]; split <;> omega, by rw [hg _ (by omega), if_pos rfl]⟩
  refine ⟨h.len, h.fs, h.sound, ?_⟩
  have hcl : ∀ x : Int, 0 ≤ x → x < n → getI (stepsG back s n) x ≠ 0 → ∀ a, E a x → a > s → getI (stepsG back s n) a ≠ 0 ∧ getI (stepsG back s n) a ≤ getI (stepsG back s n) x + 1 := fun x x0 xn hx => by
    rcases h.closed x x0 xn hx with c | c
    · exact absurd c (by simp)
    · exact c
  intro k
  induction k with
  | zero =>
    intro x hx _
    have hx : x = s := hx
    subst hx
    have hfs : getI (stepsG back s n) s = 1 := h.fs
    rw [hfs]; exact ⟨by decide, by decide⟩
  | succ k ih =>
    rintro x ⟨b, hxb, hbs, hb⟩ hxs
    obtain ⟨e1, e2⟩ := ih b hb hbs
    obtain ⟨_, _, b0, bn⟩ := hE x b hxb
    obtain ⟨f1, f2⟩ := hcl b b0 bn e1 x hxb (by rcases hxs with h | h; exact h; omega)
    refine ⟨f1, by push_cast; omega⟩
end Go.Abs


set_option maxRecDepth 100000
namespace Go.Abs
def upto (f : Int → List Int) : Nat → Int → List Int
  | 0, _ => []
  | m + 1, b => if f b ≠ [] then f b else upto f m (b + 1)
def lastI (l : List Int) : Int := l.getD (l.length - 1) 0
def headI (l : List Int) : Int := l.getD 0 0
def closeR (e : Int → Int → Bool) (n : Nat) : Nat → List Int → List Int
  | 0, l => if e (lastI l) (headI l) = true then l else []
  | k + 1, l => upto (fun b => if e (lastI l) b = true then closeR e n k (l ++ [b]) else []) ((n : Int) - (headI l + 1)).toNat (headI l + 1)
def cycR (e : Int → Int → Bool) (n : Nat) : List Int := upto (fun len => upto (fun a => closeR e n (len.toNat - 1) [a]) n 0) n 1
theorem upto_some {f : Int → List Int} : ∀ {m : Nat} {b : Int}, upto f m b ≠ [] → ∃ i, b ≤ i ∧ i < b + m ∧ f i ≠ [] ∧ (∀ j, b ≤ j → j < i → f j = []) ∧ upto f m b = f i
  | 0, b, h => absurd rfl h
  | m + 1, b, h => by
    rw [upto] at h ⊢
    by_cases hb : f b ≠ []
    · rw [if_pos hb] at h ⊢
      exact ⟨b, Int.le_refl _, by omega, hb, fun j h1 h2 => by omega, rfl⟩
    · rw [if_neg hb] at h ⊢
      obtain ⟨i, h1, h2, h3, h4, h5⟩ := upto_some h
      refine ⟨i, by omega, by push_cast; omega, h3, fun j j1 j2 => ?_, h5⟩
      by_cases e : j = b
      · subst e; exact Classical.not_not.1 hb
      · exact h4 j (by omega) j2
theorem upto_ne {f : Int → List Int} : ∀ {m : Nat} {b i : Int}, b ≤ i → i < b + m → f i ≠ [] → upto f m b ≠ []
  | 0, b, i, h1, h2, _ => by omega
  | m + 1, b, i, h1, h2, h3 => by
    rw [upto]
    by_cases hb : f b ≠ []
    · rw [if_pos hb]; exact hb
    · rw [if_neg hb]
      by_cases e : b = i
      · subst e; exact absurd h3 hb
      · exact upto_ne (by omega) (by push_cast at h2; omega) h3
theorem upto_at {f : Int → List Int} : ∀ {m : Nat} {b i : Int}, b ≤ i → i < b + m → f i ≠ [] → (∀ j, b ≤ j → j < i → f j = []) → upto f m b = f i
  | 0, b, i, h1, h2, _, _ => by omega
  | m + 1, b, i, h1, h2, h3, h4 => by
    rw [upto]
    by_cases e : b = i
    · subst e; rw [if_pos h3]
    · rw [if_neg (by rw [h4 b (Int.le_refl _) (by omega)]; simp)]
      exact upto_at (by omega) (by push_cast at h2; omega) h3 (fun j j1 j2 => h4 j (by omega) j2)
theorem upto_none {f : Int → List Int} {m : Nat} {b : Int} (h : ∀ j, b ≤ j → j < b + m → f j = []) : upto f m b = [] := by
  refine Classical.byContradiction fun hn => ?_
  obtain ⟨i, h1, h2, h3, _, _⟩ := upto_some hn
  exact h3 (h i h1 h2)
theorem lastI_snoc (l : List Int) (b : Int) : lastI (l ++ [b]) = b := by
  unfold lastI
  rw [List.length_append, List.length_singleton, List.getD_eq_getElem?_getD, List.getElem?_append_right (by omega)]
  simp
theorem headI_snoc {l : List Int} (h : l ≠ []) (b : Int) : headI (l ++ [b]) = headI l := by
  cases l with
  | nil => exact absurd rfl h
  | cons a l => rfl
theorem closeR_iff {e : Int → Int → Bool} {n : Nat} (hE : ∀ x y, e x y = true → 0 ≤ x ∧ x < n ∧ 0 ≤ y ∧ y < n) : ∀ (k : Nat) (l : List Int), l ≠ [] → (closeR e n k l ≠ [] ↔ wlk (fun x y => e x y = true) (headI l) (k + 1) (lastI l))
  | 0, l, hl => by
    rw [closeR]
    constructor
    · intro h
      by_cases c : e (lastI l) (headI l) = true
      · exact ⟨headI l, c, .inr rfl, rfl⟩
      · rw [if_neg c] at h; exact absurd rfl h
    · rintro ⟨b, h1, _, h3⟩
      have h3 : b = headI l := h3
      subst h3
      rw [if_pos h1]; exact hl
  | k + 1, l, hl => by
    rw [closeR]
    constructor
    · intro h
      obtain ⟨i, h1, h2, h3, _, _⟩ := upto_some h
      by_cases c : e (lastI l) i = true
      · rw [if_pos c] at h3
        have := (closeR_iff hE k (l ++ [i]) (by simp)).1 h3
        rw [headI_snoc hl, lastI_snoc] at this
        exact ⟨i, c, .inl (by omega), this⟩
      · rw [if_neg c] at h3; exact absurd rfl h3
    · rintro ⟨b, h1, h2, h3⟩ hn
      have hb : b > headI l := by rcases h2 with h | h; exact h; omega
      have hf : (if e (lastI l) b = true then closeR e n k (l ++ [b]) else []) ≠ [] := by
        rw [if_pos h1]
        refine (closeR_iff hE k (l ++ [b]) (by simp)).2 ?_
        rw [headI_snoc hl, lastI_snoc]; exact h3
      obtain ⟨_, _, _, bn⟩ := hE _ _ h1
      exact upto_ne (f := fun b => if e (lastI l) b = true then closeR e n k (l ++ [b]) else []) (i := b) (by omega) (by omega) hf hn
theorem closeR_len {e : Int → Int → Bool} {n : Nat} : ∀ (k : Nat) (l : List Int), l ≠ [] → closeR e n k l ≠ [] → (closeR e n k l).length = l.length + k ∧ l <+: closeR e n k l
  | 0, l, _, h => by
    rw [closeR] at h ⊢
    split at h
    · rename_i c; rw [if_pos c]; exact ⟨rfl, List.prefix_refl _⟩
    · exact absurd rfl h
  | k + 1, l, hl, h => by
    rw [closeR] at h ⊢
    obtain ⟨i, h1, h2, h3, _, h5⟩ := upto_some h
    rw [h5]
    by_cases c : e (lastI l) i = true
    · rw [if_pos c] at h3 ⊢
      obtain ⟨i1, i3⟩ := closeR_len k (l ++ [i]) (by simp) h3
      exact ⟨by rw [i1]; simp; omega, List.IsPrefix.trans (List.prefix_append _ _) i3⟩
    · rw [if_neg c] at h3; exact absurd rfl h3
theorem findB_first {s left : Int} {far : List Int} : ∀ {t : List Int} {b : Int}, t.Pairwise (· < ·) → b ∈ t → b > s → getI far b = left → (∀ c ∈ t, c > s → getI far c = left → b ≤ c) → findB s far left t = some b
  | [], _, _, h, _, _, _ => absurd h (by simp)
  | a :: t, b, hp, hm, h1, h2, h3 => by
    rw [findB]
    obtain ⟨hp1, hp2⟩ := List.pairwise_cons.1 hp
    by_cases c : a > s ∧ getI far a = left
    · rw [if_pos c]
      have := h3 a List.mem_cons_self c.1 c.2
      rcases List.mem_cons.1 hm with e | e
      · rw [e]
      · have := hp1 b e; omega
    · rw [if_neg c]
      rcases List.mem_cons.1 hm with e | e
      · subst e; exact absurd ⟨h1, h2⟩ c
      · exact findB_first hp2 e h1 h2 (fun c hc => h3 c (List.mem_cons_of_mem _ hc))
structure FarOk (E : Int → Int → Prop) (N : Nat) (s : Int) (far : List Int) : Prop where
  fs : getI far s = 1
  sound : ∀ x : Int, 0 ≤ x → x < N → getI far x ≠ 0 → ∃ k : Nat, getI far x = (k : Int) + 1 ∧ wlk E s k x ∧ (x > s ∨ k = 0)
  least : ∀ (k : Nat) (x : Int), wlk E s k x → (x > s ∨ k = 0) → getI far x ≠ 0 ∧ getI far x ≤ (k : Int) + 1
theorem path_eq {e : Int → Int → Bool} {n N : Nat} {s : Int} {far : List Int} {to : List (List Int)} (hnN : n ≤ N) (hE : ∀ x y, e x y = true → 0 ≤ x ∧ x < n ∧ 0 ≤ y ∧ y < n) (hto : ∀ x : Int, 0 ≤ x → x < N → (∀ a, a ∈ to.getD x.toNat [] ↔ e x a = true) ∧ (to.getD x.toNat []).Pairwise (· < ·))
    (hf : FarOk (fun x y => e x y = true) N s far) : ∀ (k : Nat) (l : List Int), l ≠ [] → headI l = s → wlk (fun x y => e x y = true) s (k + 1) (lastI l) → (∀ j : Nat, wlk (fun x y => e x y = true) s (j + 1) (lastI l) → k ≤ j) → pathG to s far k l = closeR e n k l
  | 0, l, hl, hs, hw, _ => by
    rw [pathG, closeR]
    obtain ⟨b, h1, _, h3⟩ := hw
    have h3 : b = s := h3
    rw [if_pos (by rw [hs, ← h3]; exact h1)]
  | k + 1, l, hl, hs, hw, hm => by
    have hne := (closeR_iff hE (k + 1) l hl).2 (by rw [hs]; exact hw)
    rw [closeR] at hne
    obtain ⟨i, h1, h2, h3, h4, h5⟩ := upto_some hne
    rw [closeR, h5]
    have hei : e (lastI l) i = true := by
      by_cases c : e (lastI l) i = true
      · exact c
      · rw [if_neg c] at h3; exact absurd rfl h3
    rw [if_pos hei] at h3 ⊢
    obtain ⟨x0, xn, i0, iN⟩ := hE _ _ hei
    have hwi : wlk (fun x y => e x y = true) s (k + 1) i := by
      have := (closeR_iff hE k (l ++ [i]) (by simp)).1 h3
      rwa [headI_snoc hl, lastI_snoc, hs] at this
    have hfar : ∀ b, e (lastI l) b = true → b > s → (getI far b = (k : Int) + 2 ↔ wlk (fun x y => e x y = true) s (k + 1) b) := by
      intro b hb hbs
      obtain ⟨_, _, b0, bn⟩ := hE _ _ hb
      constructor
      · intro hk
        obtain ⟨j, j1, j2, _⟩ := hf.sound b b0 (by omega) (by omega)
        have : j = k + 1 := by omega
        rwa [this] at j2
      · intro hk
        obtain ⟨f1, f2⟩ := hf.least (k + 1) b hk (.inl hbs)
        obtain ⟨j, j1, j2, j3⟩ := hf.sound b b0 (by omega) f1
        have hj : j ≠ 0 := by
          intro e0; subst e0
          have : b = s := j2
          omega
        have := hm j ⟨b, hb, .inl hbs, j2⟩
        push_cast at f2
        omega
    obtain ⟨t1, t2⟩ := hto (lastI l) x0 (by omega)
    have hfind : findB s far ((k : Int) + 2) (to.getD (lastI l).toNat []) = some i := by
      refine findB_first t2 ((t1 i).2 hei) (by omega) ((hfar i hei (by omega)).2 hwi) fun c hc hcs hcl => ?_
      have hec := (t1 c).1 hc
      have hwc := (hfar c hec hcs).1 hcl
      refine Classical.byContradiction fun hn => ?_
      have := h4 c (by omega) (by omega)
      rw [if_pos hec] at this
      exact (closeR_iff hE k (l ++ [c]) (by simp)).2 (by rw [headI_snoc hl, lastI_snoc, hs]; exact hwc) this
    have hg : growB to s far ((k : Int) + 2) l = l ++ [i] := by
      unfold growB
      rw [show l.getD (l.length - 1) 0 = lastI l from rfl, hfind]
    rw [pathG, hg]
    refine path_eq hnN hE hto hf k (l ++ [i]) (by simp) (by rw [headI_snoc hl, hs]) (by rw [lastI_snoc]; exact hwi) fun j hj => ?_
    rw [lastI_snoc] at hj
    have := hm (j + 1) ⟨i, hei, .inl (by omega), hj⟩
    omega
theorem leastIn_spec {s : Int} {far : List Int} : ∀ (t : List Int) (least : Int), 0 ≤ least → ((leastIn s far t least = 0 ↔ least = 0 ∧ ∀ b ∈ t, ¬ (b ≥ s ∧ getI far b > 0)) ∧ 0 ≤ leastIn s far t least ∧ (leastIn s far t least ≠ 0 → (leastIn s far t least = least ∨ ∃ b ∈ t, b ≥ s ∧ getI far b = leastIn s far t least)
      ∧ (least ≠ 0 → leastIn s far t least ≤ least) ∧ ∀ b ∈ t, b ≥ s → getI far b > 0 → leastIn s far t least ≤ getI far b))
  | [], least, h0 => ⟨⟨fun h => ⟨h, fun _ h => absurd h (by simp)⟩, fun h => h.1⟩, h0, fun _ => ⟨.inl rfl, fun _ => Int.le_refl _, fun _ h => absurd h (by simp)⟩⟩
  | a :: t, least, h0 => by
    rw [leastIn]
    by_cases c : a ≥ s ∧ getI far a > 0 ∧ (least = 0 ∨ getI far a < least)
    · rw [if_pos c]
      obtain ⟨i1, i2, i3⟩ := leastIn_spec (s := s) (far := far) t (getI far a) (by omega)
      refine ⟨⟨fun h => absurd (i1.1 h).1 (by omega), fun h => absurd ⟨c.1, c.2.1⟩ (h.2 a List.mem_cons_self)⟩, i2, fun h => ?_⟩
      obtain ⟨j1, j2, j3⟩ := i3 h
      refine ⟨.inr ?_, fun hl => ?_, fun b hb h1 h2 => ?_⟩
      · rcases j1 with e | ⟨b, hb, h1, h2⟩
        · exact ⟨a, List.mem_cons_self, c.1, e.symm⟩
        · exact ⟨b, List.mem_cons_of_mem _ hb, h1, h2⟩
      · clear j1 j3
        have := j2 (by omega); omega
      · rcases List.mem_cons.1 hb with e | hb
        · subst e; exact j2 (by omega)
        · exact j3 b hb h1 h2
    · rw [if_neg c]
      obtain ⟨i1, i2, i3⟩ := leastIn_spec (s := s) (far := far) t least h0
      refine ⟨⟨fun h => ⟨(i1.1 h).1, fun b hb => ?_⟩, fun h => i1.2 ⟨h.1, fun b hb => h.2 b (List.mem_cons_of_mem _ hb)⟩⟩, i2, fun h => ?_⟩
      · rcases List.mem_cons.1 hb with e | hb
        · subst e; exact fun h2 => c ⟨h2.1, h2.2, .inl (i1.1 h).1⟩
        · exact (i1.1 h).2 b hb
      · obtain ⟨j1, j2, j3⟩ := i3 h
        refine ⟨?_, j2, fun b hb h1 h2 => ?_⟩
        · rcases j1 with e | ⟨b, hb, h1, h2⟩
          · exact .inl e
          · exact .inr ⟨b, List.mem_cons_of_mem _ hb, h1, h2⟩
        · rcases List.mem_cons.1 hb with e | hb
          · subst e
            by_cases l0 : least = 0
            · exact absurd ⟨h1, h2, .inl l0⟩ c
            · have := j2 l0
              refine Classical.byContradiction fun hn => c ⟨h1, h2, .inr (by omega)⟩
          · exact j3 b hb h1 h2
theorem least_circle {e : Int → Int → Bool} {N : Nat} {s : Int} {far t : List Int} (hE : ∀ x y, e x y = true → 0 ≤ x ∧ x < N ∧ 0 ≤ y ∧ y < N) (ht : ∀ a, a ∈ t ↔ e s a = true) (hf : FarOk (fun x y => e x y = true) N s far) :
    (leastIn s far t 0 = 0 ∧ ∀ k : Nat, ¬ wlk (fun x y => e x y = true) s (k + 1) s) ∨ ∃ k : Nat, leastIn s far t 0 = (k : Int) + 1 ∧ wlk (fun x y => e x y = true) s (k + 1) s ∧ ∀ j : Nat, wlk (fun x y => e x y = true) s (j + 1) s → k ≤ j := by
  obtain ⟨h1, h2, h3⟩ := leastIn_spec (s := s) (far := far) t 0 (Int.le_refl _)
  have hwk : ∀ k : Nat, wlk (fun x y => e x y = true) s (k + 1) s → ∃ b ∈ t, b ≥ s ∧ getI far b > 0 ∧ getI far b ≤ (k : Int) + 1 := by
    rintro k ⟨b, hb, hbs, hbw⟩
    obtain ⟨_, _, b0, bn⟩ := hE _ _ hb
    obtain ⟨f1, f2⟩ := hf.least k b hbw hbs
    obtain ⟨j, j1, _⟩ := hf.sound b b0 bn f1
    refine ⟨b, (ht b).2 hb, ?_, by omega, f2⟩
    rcases hbs with h | h
    · omega
    · subst h
      have : b = s := hbw
      omega
  by_cases h0 : leastIn s far t 0 = 0
  · refine .inl ⟨h0, fun k hk => ?_⟩
    obtain ⟨b, hb, hbs, hb1, _⟩ := hwk k hk
    exact (h1.1 h0).2 b hb ⟨hbs, hb1⟩
  · obtain ⟨j1, _, j3⟩ := h3 h0
    rcases j1 with e0 | ⟨b, hb, hbs, hbl⟩
    · exact absurd e0 h0
    obtain ⟨_, _, b0, bn⟩ := hE _ _ ((ht b).1 hb)
    obtain ⟨k, k1, k2, k3⟩ := hf.sound b b0 bn (by rw [hbl]; exact h0)
    refine .inr ⟨k, by rw [← hbl, k1], ⟨b, (ht b).1 hb, k3, k2⟩, fun j hj => ?_⟩
    obtain ⟨c, hc, hcs, hc1, hc2⟩ := hwk j hj
    have := j3 c hc hcs hc1
    omega
theorem circle_le {e : Int → Int → Bool} {n : Nat} {s : Int} {k : Nat} (hE : ∀ x y, e x y = true → 0 ≤ x ∧ x < n ∧ 0 ≤ y ∧ y < n) (h : wlk (fun x y => e x y = true) s (k + 1) s) : ∃ j : Nat, j + 1 ≤ n ∧ wlk (fun x y => e x y = true) s (j + 1) s := by
  obtain ⟨b, hb, hbs, hbw⟩ := h
  obtain ⟨s0, sn, b0, bn⟩ := hE _ _ hb
  let back : List (List Int) := (List.range n).map fun (i : Nat) => ((List.range n).map fun (a : Nat) => (a : Int)).filter fun a => e a (i : Int)
  have hat : ∀ b : Int, 0 ≤ b → b < n → back.getD b.toNat [] = ((List.range n).map fun (a : Nat) => (a : Int)).filter fun a => e a b := by
    intro b h0 h1
    have h2 : b.toNat < n := by omega
    simp only [back, List.getD_eq_getElem?_getD, List.getElem?_map, List.getElem?_range h2, Option.map_some, Option.getD_some]
    rw [show ((b.toNat : Nat) : Int) = b by omega]
  have hbk : ∀ b : Int, 0 ≤ b → b < n → ∀ a, a ∈ back.getD b.toNat [] ↔ (fun x y => e x y = true) a b := by
    intro b h0 h1 a
    rw [hat b h0 h1]
    simp only [List.mem_filter, List.mem_map, List.mem_range]
    constructor
    · rintro ⟨_, h⟩; exact h
    · intro h
      obtain ⟨a0, an, _, _⟩ := hE _ _ h
      exact ⟨⟨a.toNat, by omega, by omega⟩, h⟩
  have hs : s.toNat < n := by omega
  obtain ⟨q1, q2, q3, q4⟩ := steps_right hs (E := fun x y => e x y = true) hE hbk
  obtain ⟨_, hle⟩ := steps_facts hs (back := back) (fun x hx a ha => by
    obtain ⟨i, hi, rfl⟩ := List.mem_map.1 hx
    have ha := (List.mem_filter.1 ha).1
    simp only [List.mem_map, List.mem_range] at ha
    obtain ⟨c, hc, rfl⟩ := ha
    omega)
  have es : ((s.toNat : Nat) : Int) = s := by omega
  rw [es] at q2 q3 q4
  obtain ⟨f1, f2⟩ := q4 k b hbw hbs
  obtain ⟨j, j1, j2, j3⟩ := q3 b b0 bn f1
  refine ⟨j, ?_, b, hb, j3, j2⟩
  have := (hle b.toNat).2
  unfold getI at j1
  omega
theorem cycR_none {e : Int → Int → Bool} {n : Nat} (hE : ∀ x y, e x y = true → 0 ≤ x ∧ x < n ∧ 0 ≤ y ∧ y < n) (h : ∀ s, ∀ k : Nat, ¬ wlk (fun x y => e x y = true) s (k + 1) s) : cycR e n = [] := by
  refine upto_none fun len _ _ => upto_none fun a _ _ => ?_
  refine Classical.byContradiction fun hn => ?_
  exact h a _ ((closeR_iff hE _ [a] (by simp)).1 hn)
theorem cycR_some {e : Int → Int → Bool} {n : Nat} {a : Int} {k : Nat} (hE : ∀ x y, e x y = true → 0 ≤ x ∧ x < n ∧ 0 ≤ y ∧ y < n) (ha : wlk (fun x y => e x y = true) a (k + 1) a) (hmin : ∀ s, ∀ j : Nat, wlk (fun x y => e x y = true) s (j + 1) s → k ≤ j ∧ (s < a → k < j)) : cycR e n = closeR e n k [a] := by
  obtain ⟨b, hb, _⟩ := id ha
  obtain ⟨a0, an, _, _⟩ := hE _ _ hb
  have hk : k + 1 ≤ n := by
    obtain ⟨j, j1, j2⟩ := circle_le hE ha
    have := (hmin a j j2).1
    omega
  have hin : ∀ j : Nat, j < k → upto (fun a => closeR e n j [a]) n 0 = [] := fun j hj => upto_none fun x _ _ => by
    refine Classical.byContradiction fun hn => ?_
    have := (hmin x j ((closeR_iff hE _ [x] (by simp)).1 hn)).1
    omega
  have hat : upto (fun a => closeR e n k [a]) n 0 = closeR e n k [a] := upto_at a0 (by omega) ((closeR_iff hE k [a] (by simp)).2 ha) fun x _ hx => by
    refine Classical.byContradiction fun hn => ?_
    have := (hmin x k ((closeR_iff hE _ [x] (by simp)).1 hn)).2 hx
    omega
  have hne := (closeR_iff hE k [a] (by simp)).2 ha
  unfold cycR
  have key := upto_at (f := fun len : Int => upto (fun a => closeR e n (len.toNat - 1) [a]) n 0) (m := n) (b := 1) (i := (k : Int) + 1) (by omega) (by omega) (by
    show upto (fun a => closeR e n (((k : Int) + 1).toNat - 1) [a]) n 0 ≠ []
    rw [show ((k : Int) + 1).toNat - 1 = k by omega, hat]; exact hne) (fun j h1 h2 => by
    show upto (fun a => closeR e n (j.toNat - 1) [a]) n 0 = []
    exact hin _ (by omega))
  rw [key]
  show upto (fun a => closeR e n (((k : Int) + 1).toNat - 1) [a]) n 0 = _
  rw [show ((k : Int) + 1).toNat - 1 = k by omega, hat]
theorem cyc_eq {e : Int → Int → Bool} {n N : Nat} {to back : List (List Int)} (hnN : n ≤ N) (hE : ∀ x y, e x y = true → 0 ≤ x ∧ x < n ∧ 0 ≤ y ∧ y < n) (hto : ∀ x : Int, 0 ≤ x → x < N → (∀ a, a ∈ to.getD x.toNat [] ↔ e x a = true) ∧ (to.getD x.toNat []).Pairwise (· < ·))
    (hbk : ∀ b : Int, 0 ≤ b → b < N → ∀ a, a ∈ back.getD b.toNat [] ↔ e a b = true) : (List.range N).foldl (cycStep to back N) [] = cycR e n := by
  have hEN : ∀ x y, e x y = true → 0 ≤ x ∧ x < N ∧ 0 ≤ y ∧ y < N := fun x y h => by have := hE x y h; omega
  have inv : ∀ m, m ≤ N → ((List.range m).foldl (cycStep to back N) [] = [] ∧ ∀ s : Int, s < m → ∀ k : Nat, ¬ wlk (fun x y => e x y = true) s (k + 1) s) ∨
      ∃ (a : Int) (k : Nat), a < m ∧ (List.range m).foldl (cycStep to back N) [] = closeR e n k [a] ∧ wlk (fun x y => e x y = true) a (k + 1) a ∧ ∀ s : Int, s < m → ∀ j : Nat, wlk (fun x y => e x y = true) s (j + 1) s → k ≤ j ∧ (s < a → k < j) := by
    intro m
    induction m with
    | zero =>
      intro _
      refine .inl ⟨rfl, fun s hs k hk => ?_⟩
      obtain ⟨b, hb, _⟩ := hk
      have := (hE _ _ hb).1
      omega
    | succ m ih =>
      intro hm
      have ih := ih (by omega)
      rw [List.range_succ, List.foldl_append]
      generalize (List.range m).foldl (cycStep to back N) [] = best at ih
      obtain ⟨g1, g2, g3, g4⟩ := steps_right (n := N) (s := m) (by omega) (E := fun x y => e x y = true) hEN hbk
      have hf : FarOk (fun x y => e x y = true) N m (stepsG back m N) := ⟨g2, g3, g4⟩
      obtain ⟨t1, t2⟩ := hto m (by omega) (by omega)
      rw [show ((m : Int)).toNat = m from rfl] at t1 t2
      have hlc := least_circle hEN t1 hf
      simp only [List.foldl_cons, List.foldl_nil]
      unfold cycStep
      simp only []
      rcases hlc with ⟨l0, lno⟩ | ⟨r, lr, lw, lmin⟩
      · rw [if_pos (.inl l0)]
        rcases ih with ⟨i1, i2⟩ | ⟨a, k, ham, i1, i2, i3⟩
        · refine .inl ⟨i1, fun s hs k hk => ?_⟩
          by_cases es : s = m
          · subst es; exact lno k hk
          · exact i2 s (by push_cast at hs; omega) k hk
        · refine .inr ⟨a, k, by push_cast; omega, i1, i2, fun s hs j hj => ?_⟩
          by_cases es : s = m
          · subst es; exact absurd hj (lno j)
          · exact i3 s (by push_cast at hs; omega) j hj
      · have hpath : pathG to m (stepsG back m N) r [(m : Int)] = closeR e n r [(m : Int)] := path_eq hnN hE hto hf r [(m : Int)] (by simp) rfl lw lmin
        rcases ih with ⟨i1, i2⟩ | ⟨a, k, ham, i1, i2, i3⟩
        · rw [if_neg (by rw [lr, i1]; simp; omega), lr, show ((r : Int) + 1).toNat - 1 = r by omega, hpath]
          refine .inr ⟨m, r, by push_cast; omega, rfl, lw, fun s hs j hj => ?_⟩
          by_cases es : s = m
          · subst es; exact ⟨lmin j hj, fun h => by omega⟩
          · exact absurd hj (i2 s (by push_cast at hs; omega) j)
        · have hne := (closeR_iff hE k [a] (by simp)).2 i2
          have hlen := (closeR_len k [a] (by simp) hne).1
          rw [i1]
          by_cases hc : (r : Int) + 1 ≥ ((closeR e n k [a]).length : Int)
          · rw [if_pos (.inr ⟨hne, by rw [lr]; exact hc⟩)]
            rw [hlen] at hc
            simp only [List.length_singleton] at hc
            refine .inr ⟨a, k, by push_cast; omega, rfl, i2, fun s hs j hj => ?_⟩
            by_cases es : s = m
            · subst es
              have := lmin j hj
              exact ⟨by omega, fun h => by omega⟩
            · exact i3 s (by push_cast at hs; omega) j hj
          · rw [if_neg (by rw [lr]; rintro (h | h); omega; exact hc h.2), lr, show ((r : Int) + 1).toNat - 1 = r by omega, hpath]
            rw [hlen] at hc
            simp only [List.length_singleton] at hc
            refine .inr ⟨m, r, by push_cast; omega, rfl, lw, fun s hs j hj => ?_⟩
            by_cases es : s = m
            · subst es; exact ⟨lmin j hj, fun h => by omega⟩
            · have := i3 s (by push_cast at hs; omega) j hj
              exact ⟨by omega, fun _ => by omega⟩
  rcases inv N (Nat.le_refl _) with ⟨i1, i2⟩ | ⟨a, k, ham, i1, i2, i3⟩
  · rw [i1, cycR_none hE fun s k hk => ?_]
    obtain ⟨b, hb, _⟩ := id hk
    exact i2 s (by have := hEN _ _ hb; omega) k hk
  · rw [i1, cycR_some hE i2 fun s j hj => ?_]
    obtain ⟨b, hb, _⟩ := id hj
    exact i3 s (by have := hEN _ _ hb; omega) j hj
end Go.Abs


set_option maxRecDepth 100000
namespace Go.Abs
def minW (e : Int → Int → Bool) (s : Int) (k : Nat) (x : Int) : Prop := wlk (fun x y => e x y = true) s (k + 1) x ∧ ∀ j : Nat, wlk (fun x y => e x y = true) s (j + 1) x → k ≤ j
theorem minW.uniq {e : Int → Int → Bool} {s x : Int} {k k' : Nat} (h : minW e s k x) (h' : minW e s k' x) : k = k' := Nat.le_antisymm (h.2 _ h'.1) (h'.2 _ h.1)
def AccOk (l : List Dr) : Prop := ∀ i : Int, 0 ≤ i → i < l.length → (dat l i).c ≠ -1 → (dat l (dat l i).c).a = (dat l i).d
theorem dat_mem {l : List Dr} {i : Int} (h0 : 0 ≤ i) (hi : i < l.length) : dat l i ∈ l := by
  unfold dat
  rw [List.getD_eq_getElem?_getD, List.getElem?_eq_getElem (by omega), Option.getD_some]
  exact List.getElem_mem _
end Go.Abs


set_option maxRecDepth 100000
set_option maxHeartbeats 4000000
namespace Go.Abs
open Go.Proofs Go.RowKit
theorem chkL_zero {l : List Dr} : ∀ {r : List Dr} {i : Nat}, chkL l i r = 0 ↔ ∀ j (h : j < r.length), ¬ badA r[j] ∧ ¬ badY r[j] ∧ ¬ badC l (i + j : Nat) r[j]
  | [], i => ⟨fun _ j h => absurd h (by simp), fun _ => rfl⟩
  | x :: r, i => by
    rw [chkL]
    by_cases h1 : chk1 l i x = 0
    · rw [if_neg (by simpa using h1), chkL_zero]
      have hx : ¬ badA x ∧ ¬ badY x ∧ ¬ badC l i x := by
        unfold chk1 at h1
        by_cases a : badA x
        · rw [if_pos a] at h1; cases h1
        · rw [if_neg a] at h1
          by_cases b : badY x
          · rw [if_pos b] at h1; cases h1
          · rw [if_neg b] at h1
            by_cases c : badC l i x
            · rw [if_pos c] at h1; cases h1
            · exact ⟨a, b, c⟩
      constructor
      · intro h j hj
        cases j with
        | zero => exact hx
        | succ j =>
          have := h j (by simpa using hj)
          rw [show i + (j + 1) = i + 1 + j by omega]
          exact this
      · intro h j hj
        have := h (j + 1) (by simpa using hj)
        rw [show i + (j + 1) = i + 1 + j by omega] at this
        exact this
    · rw [if_pos (by simpa using h1)]
      refine ⟨fun h => absurd h h1, fun h => ?_⟩
      have := h 0 (by simp)
      refine absurd ?_ h1
      unfold chk1
      have e : (x :: r)[0] = x := rfl
      rw [e, Nat.add_zero] at this
      rw [if_neg this.1, if_neg this.2.1, if_neg this.2.2]
theorem chk_iff {l : List Dr} : chkG l = 0 ↔ l.length ≤ 100 ∧ ∀ i : Nat, i < l.length → ¬ badA (dat l i) ∧ ¬ badY (dat l i) ∧ ¬ badC l i (dat l i) := by
  unfold chkG
  by_cases h : (l.length : Int) > 100
  · rw [if_pos h]
    exact ⟨fun h => (by cases h), fun h2 => by omega⟩
  · rw [if_neg h, chkL_zero]
    constructor
    · intro h2
      refine ⟨by omega, fun i hi => ?_⟩
      have := h2 i hi
      rw [Nat.zero_add] at this
      rw [dat_nat hi]; exact this
    · rintro ⟨_, h2⟩ j hj
      have := h2 j hj
      rw [dat_nat hj] at this
      rw [Nat.zero_add]; exact this
structure RightD (l : List Dr) : Prop where
  len : l.length ≤ 100
  cov : CovOk l
  acc : AccOk l
  sum : SumOk l
  self : ∀ x ∈ l, x.d ≠ x.a
  firm : ∀ x ∈ l, 0 ≤ x.d ∧ x.d < 200 ∧ 0 ≤ x.a ∧ x.a < 200
theorem right_of {l : List Dr} (h : chkG l = 0) : RightD l := by
  obtain ⟨h1, h2⟩ := chk_iff.1 h
  have hm : ∀ x ∈ l, ¬ badA x := by
    intro x hx
    obtain ⟨i, hi, rfl⟩ := List.getElem_of_mem hx
    have := (h2 i hi).1
    rwa [dat_nat hi] at this
  have hc : ∀ i : Int, 0 ≤ i → i < l.length → ¬ badC l i (dat l i) := by
    intro i h0 hi
    have := (h2 i.toNat (by omega)).2.2
    rwa [show ((i.toNat : Nat) : Int) = i by omega] at this
  refine ⟨h1, fun i h0 hi => ?_, fun i h0 hi hn => ?_, fun x hx => ?_, fun x hx => ?_, fun x hx => ?_⟩
  · have := hc i h0 hi
    unfold badC at this
    omega
  · have := hc i h0 hi
    unfold badC at this
    omega
  · have := hm x hx
    unfold badA at this
    omega
  · have := hm x hx
    unfold badA at this
    intro e; exact this (.inr (.inr (.inl e)))
  · have := hm x hx
    unfold badA firmB at this
    simp only [decide_eq_false_iff_not] at this
    omega
theorem covS_snoc (l : List Dr) (x : Dr) (j : Int) : covS (l ++ [x]) j = covS l j + if x.c = j then x.s else 0 := by
  unfold covS
  rw [List.filter_append, List.map_append]
  by_cases h : x.c = j
  · simp only [List.filter_cons, h, decide_true, if_true, List.filter_nil, List.map_cons, List.map_nil, sumI_snoc]
  · simp [h]
theorem covS_take {l : List Dr} {i : Nat} (h : i < l.length) (j : Int) : covS (l.take (i + 1)) j = covS (l.take i) j + if (dat l i).c = j then (dat l i).s else 0 := by
  rw [List.take_succ_eq_append_getElem h, covS_snoc, dat_nat h]
def accO (l : List Dr) (i : Nat) : List Int := (List.range l.length).map fun (j : Nat) => (if j < i then (dat l j).s else 0) - covS (l.take i) j
theorem accO_len (l : List Dr) (i : Nat) : (accO l i).length = l.length := by simp [accO]
theorem accO_at {l : List Dr} {i j : Nat} (h : j < l.length) : (accO l i).getD j 0 = (if j < i then (dat l j).s else 0) - covS (l.take i) j := by simp [accO, h]
theorem accO_bound {l : List Dr} (hs : SumOk l) (hl : l.length ≤ 100) (i j : Nat) : -109951162777600 ≤ (accO l i).getD j 0 ∧ (accO l i).getD j 0 ≤ 1099511627776 := by
  by_cases h : j < l.length
  · rw [accO_at h]
    have h1 := covS_bound (l := l.take i) (fun x hx => hs x (List.mem_of_mem_take hx)) j
    have h2 := hs _ (dat_mem (l := l) (i := (j : Int)) (by omega) (by omega))
    have h3 : (l.take i).length ≤ 100 := by rw [List.length_take]; omega
    have h4 : ((l.take i).length : Int) * 1099511627776 ≤ 100 * 1099511627776 := Int.mul_le_mul_of_nonneg_right (by omega) (by omega)
    split <;> omega
  · rw [List.getD_eq_getElem?_getD, List.getElem?_eq_none (by rw [accO_len]; omega)]; simp
theorem accO_zero (l : List Dr) : accO l 0 = List.replicate l.length 0 := by
  apply List.ext_getElem
  · simp [accO]
  · intro j h1 h2
    simp [accO, covS, sumI]
theorem accO_next0 {l : List Dr} {i : Nat} (h : i < l.length) (hn : (dat l i).c = -1) : (accO l i).set i ((accO l i).getD i 0 + (dat l i).s) = accO l (i + 1) := by
  rw [accO_at h, if_neg (Nat.lt_irrefl i)]
  apply List.ext_getElem
  · simp [accO]
  · intro j h1 h2
    rw [List.getElem_set]
    simp only [accO, List.getElem_map, List.getElem_range, covS_take h]
    rw [hn]
    by_cases e : i = j
    · subst e
      rw [if_pos rfl, if_pos (by omega), if_neg (by omega)]; omega
    · rw [if_neg e]
      rw [if_neg (by omega : ¬ (-1 : Int) = (j : Int))]
      by_cases g : j < i
      · rw [if_pos g, if_pos (by omega)]; omega
      · rw [if_neg g, if_neg (by omega)]; omega
theorem accO_next1 {l : List Dr} (hc : CovOk l) {i : Nat} (h : i < l.length) (hn : (dat l i).c ≠ -1) : ((accO l i).set i ((accO l i).getD i 0 + (dat l i).s)).set (dat l i).c.toNat ((accO l i).getD (dat l i).c.toNat 0 - (dat l i).s) = accO l (i + 1) := by
  have hr := hc i (by omega) (by omega)
  have hci : (dat l i).c.toNat ≠ i := by omega
  rw [accO_at h, accO_at (by omega), if_neg (Nat.lt_irrefl i), if_pos (by omega)]
  apply List.ext_getElem
  · simp [accO]
  · intro j h1 h2
    rw [List.getElem_set, List.getElem_set]
    simp only [accO, List.getElem_map, List.getElem_range, covS_take h]
    by_cases e : (dat l i).c.toNat = j
    · rw [if_pos e, if_pos (by omega : (dat l i).c = (j : Int)), if_pos (by omega : j < i + 1), e]; omega
    · rw [if_neg e, if_neg (by omega : ¬ (dat l i).c = (j : Int))]
      by_cases e2 : i = j
      · subst e2
        rw [if_pos rfl, if_pos (by omega)]; omega
      · rw [if_neg e2]
        by_cases g : j < i
        · rw [if_pos g, if_pos (by omega)]; omega
        · rw [if_neg g, if_neg (by omega)]; omega
def ownL (l : List Dr) : List Int := (List.range l.length).map fun (j : Nat) => ownAt l j
theorem ownL_len (l : List Dr) : (ownL l).length = l.length := by simp [ownL]
theorem ownL_at {l : List Dr} {j : Nat} (h : j < l.length) : (ownL l).getD j 0 = ownAt l j := by simp [ownL, h]
def mxO (l : List Dr) (i : Nat) : List Int := (ownL l).take i ++ (accO l l.length).drop i
theorem mxO_len {l : List Dr} {i : Nat} (h : i ≤ l.length) : (mxO l i).length = l.length := by simp [mxO, ownL_len, accO_len]; omega
theorem mxO_at {l : List Dr} {i : Nat} (h : i < l.length) : (mxO l i).getD i 0 = (accO l l.length).getD i 0 := by
  unfold mxO
  rw [List.getD_eq_getElem?_getD, List.getElem?_append_right (by simp [ownL_len]; omega), List.getElem?_drop, List.getD_eq_getElem?_getD]
  congr 2; simp [ownL_len]; omega
theorem mxO_next {l : List Dr} {i : Nat} (h : i < l.length) : (mxO l i).set i (max 0 ((accO l l.length).getD i 0)) = mxO l (i + 1) := by
  have ho : i < (ownL l).length := by rw [ownL_len]; exact h
  have ha : i < (accO l l.length).length := by rw [accO_len]; exact h
  unfold mxO
  rw [List.take_succ_eq_append_getElem ho, List.drop_eq_getElem_cons ha, List.set_append_right _ _ (by simp [ownL_len]; omega)]
  have e : i - ((ownL l).take i).length = 0 := by simp [ownL_len]; omega
  rw [e, List.set_cons_zero, List.append_assoc]
  congr 2
  rw [accO_at h, if_pos h, List.take_length]
  simp [ownL, ownAt]
theorem ints_set (l : List Int) (i : Nat) (a : Int) : (ints l).set i [.int .i64 a] = ints (l.set i a) := by simp [ints, List.map_set]
theorem ints_repl0 (n : Nat) : List.replicate n [C.int .i64 0] = ints (List.replicate n 0) := by simp [ints]
theorem ints_getD {l : List Int} {i : Nat} (h : i < l.length) : (ints l).getD i [] = [.int .i64 (l.getD i 0)] := by rw [ints_at h]; simp [List.getD, h]
theorem d29 (l : List Dr) (hR : RightD l) : Spec Try.prog 29 [lst 6 (drs l)] (fun r => r = lst 1 (ints (ownL l))) := by
  refine Spec.of_awlP hf29 okf29 (by simp) fun S hS => ?_
  have hl := hR.len
  have b1 : (0 : Int) ≤ l.length := by omega
  have b2 : (8 : Int) * l.length ≤ 281474976710656 := by omega
  have b3 : (l.length : Int) ≤ 9223372036854775807 := by omega
  simp only [drs_len, normRows_drs, ints_repl0, Qs, bne_iff_ne, ne_eq, Nat.reduceEqDiff, Nat.reduceBEq, uu f29.eq_1, uu f29b34.eq_1, vv f29r35.eq_1, uu f29b36.eq_1, uu f29b37.eq_1, vv f29r38.eq_1, uu f29b39.eq_1, vv f29r40.eq_1, uu f29b41.eq_1]
  refine ⟨Int.le_refl _, b2, b3, ?_⟩
  rw [uu f29l33.eq_1]
  refine awl_loop (fun i : Nat => [(3, .k (.own 9)), (10, lst 6 (drs l)), (11, .int .i64 l.length), (12, .int .i64 i)]) (fun i => [(9, .arr 3 1 (some false) (ints (accO l i)))]) (fun i => i ≤ l.length) (fun i => l.length - i) 0 rfl (by rw [accO_zero]; rfl) (Nat.zero_le _) ?_
  intro i hi
  by_cases hlt : i < l.length
  · have c1 : (i : Int) < l.length := by omega
    have c4 : IntKind.i64.wrap ((i : Int) + 1) = (i : Int) + 1 := wrap_in (by omega) (by omega)
    obtain ⟨x, hx⟩ : ∃ x, dat l i = x := ⟨_, rfl⟩
    have hat := drs_nat hlt
    have hcv := hR.cov i (by omega) (by omega)
    have hsx := hR.sum _ (dat_mem (l := l) (i := (i : Int)) (by omega) (by omega))
    have hn0 := accO_next0 hlt
    have hn1 := accO_next1 hR.cov hlt
    rw [hx] at hat hcv hsx hn0 hn1
    have hb := accO_bound hR.sum hl i i
    have hA : (ints (accO l i)).getD i [] = [.int .i64 ((accO l i).getD i 0)] := ints_getD (by rw [accO_len]; exact hlt)
    have w1 : IntKind.i64.wrap ((accO l i).getD i 0 + x.s) = (accO l i).getD i 0 + x.s := wrap_in (by omega) (by omega)
    have ln := accO_len l i
    have i0 : (0 : Int) ≤ (i : Int) := by omega
    by_cases hc : x.c = -1
    · have hcb : (x.c != -1) = false := by simp [hc]
      simp only [c1, c4, i0, hat, hA, hcb, w1, ln, ints_len, drs_len, normRows_drs, Int.toNat_natCast, ints_set, Qs, if_true, if_false, bne_iff_ne, ne_eq, Int.reduceNeg, List.append_nil, Nat.reduceAdd, Nat.reduceEqDiff, Nat.reduceLeDiff, Nat.reduceBEq, vv f29r18.eq_1, vv f29r19.eq_1, uu f29b20.eq_1, vv f29r21.eq_1, uu f29b22.eq_1, vv f29r23.eq_1, uu f29b24.eq_1, vv f29r25.eq_1, uu f29b26.eq_1, uu f29b27.eq_1, uu f29b28.eq_1, uu f29b29.eq_1, uu f29b30.eq_1, vv f29r31.eq_1, uu f29b32.eq_1]
      exact Next.intro (i + 1) rfl (by rw [← hn0 hc]; rfl) (by omega) (by omega)
    · have hcb : (x.c != -1) = true := by simp [hc]
      have hcr : 0 ≤ x.c ∧ x.c < i := by omega
      have hc0 : 0 ≤ x.c := hcr.1
      obtain ⟨A1, hA1⟩ : ∃ A1, (accO l i).set i ((accO l i).getD i 0 + x.s) = A1 := ⟨_, rfl⟩
      have ln1 : A1.length = l.length := by rw [← hA1, List.length_set, ln]
      have hc1 : x.c < (l.length : Int) := by omega
      have hg1 : A1.getD x.c.toNat 0 = (accO l i).getD x.c.toNat 0 := by
        rw [← hA1, List.getD_eq_getElem?_getD, List.getElem?_set_ne (by omega), ← List.getD_eq_getElem?_getD]
      have hB : (ints A1).getD x.c.toNat [] = [.int .i64 ((accO l i).getD x.c.toNat 0)] := by rw [ints_getD (by omega), hg1]
      have hb2 := accO_bound hR.sum hl i x.c.toNat
      have w2 : IntKind.i64.wrap ((accO l i).getD x.c.toNat 0 - x.s) = (accO l i).getD x.c.toNat 0 - x.s := wrap_in (by omega) (by omega)
      have hn1 := hn1 hc
      rw [hA1] at hn1
      simp only [c1, c4, i0, hc0, hc1, hat, hA, hA1, hB, hcb, w1, w2, ln, ln1, ints_len, drs_len, normRows_drs, Int.toNat_natCast, ints_set, Qs, if_true, if_false, bne_iff_ne, ne_eq, Int.reduceNeg, List.append_nil, Nat.reduceAdd, Nat.reduceEqDiff, Nat.reduceLeDiff, Nat.reduceBEq, vv f29r18.eq_1, vv f29r19.eq_1, uu f29b20.eq_1, vv f29r21.eq_1, uu f29b22.eq_1, vv f29r23.eq_1, uu f29b24.eq_1, vv f29r25.eq_1, uu f29b26.eq_1, uu f29b27.eq_1, uu f29b28.eq_1, uu f29b29.eq_1, uu f29b30.eq_1, vv f29r31.eq_1, uu f29b32.eq_1]
      exact Next.intro (i + 1) rfl (by rw [← hn1]; rfl) (by omega) (by omega)
  · obtain rfl : i = l.length := by omega
    have c1 : ¬ (l.length : Int) < l.length := by omega
    simp only [c1, ints_len, accO_len, Qs, if_true, Nat.reduceBEq, uu f29b14.eq_1, vv f29r15.eq_1, uu f29b16.eq_1, uu f29b17.eq_1, uu f29b29.eq_1, uu f29b30.eq_1, vv f29r31.eq_1, uu f29b32.eq_1]
    rw [uu f29l13.eq_1]
    refine awl_loop (fun i : Nat => [(3, .k (.own 9)), (39, .int .i64 l.length), (40, .int .i64 i)]) (fun i => [(9, .arr 3 1 (some false) (ints (mxO l i)))]) (fun i => i ≤ l.length) (fun i => l.length - i) 0 rfl (by simp only [mxO, List.take_zero, List.nil_append, List.drop_zero]; rfl) (Nat.zero_le _) ?_
    intro i hi
    by_cases hlt : i < l.length
    · have c1 : (i : Int) < l.length := by omega
      have c4 : IntKind.i64.wrap ((i : Int) + 1) = (i : Int) + 1 := wrap_in (by omega) (by omega)
      have ln := mxO_len hi
      have hA : (ints (mxO l i)).getD i [] = [.int .i64 ((accO l l.length).getD i 0)] := by rw [ints_getD (by omega), mxO_at hlt]
      have i0 : (0 : Int) ≤ (i : Int) := by omega
      have hn := mxO_next hlt
      have em : (if (accO l l.length).getD i 0 > 0 then (accO l l.length).getD i 0 else 0) = max 0 ((accO l l.length).getD i 0) := by split <;> omega
      simp only [c1, c4, i0, hA, ln, ints_len, Int.toNat_natCast, ints_set, Qs, q_exL_eq_34, if_true, List.append_nil, Nat.reduceBEq, vv f29r3.eq_1, vv f29r4.eq_1, vv f29r5.eq_1, uu f29b6.eq_1, uu f29b7.eq_1, uu f29b8.eq_1, uu f29b9.eq_1, uu f29b10.eq_1, vv f29r11.eq_1, uu f29b12.eq_1]
      exact Next.intro (i + 1) rfl (by rw [← hn, ← em]; rfl) (by omega) (by omega)
    · obtain rfl : i = l.length := by omega
      have c1 : ¬ (l.length : Int) < l.length := by omega
      have hf : mxO l l.length = ownL l := by unfold mxO; rw [List.take_of_length_le (by rw [ownL_len]; omega), List.drop_of_length_le (by rw [accO_len]; omega), List.append_nil]
      simp only [c1, hf, ints_len, Qs, if_true, List.nodup_nil, List.nodup_cons, Nat.reduceBEq, List.not_mem_nil, vv f29r1.eq_1, uu f29b2.eq_1, uu f29b9.eq_1, uu f29b10.eq_1, vv f29r11.eq_1, uu f29b12.eq_1]
      exact hS _ (by simp [V.fz, V.nrm, Abs.K.fz, Abs.K.nrm, norm_list])
def ownG (l : List Dr) (i : Int) : Int := if chkG l ≠ 0 ∨ i < 0 ∨ i ≥ l.length then 0 else ownAt l i
theorem ownG_right {l : List Dr} (h : chkG l = 0) {i : Int} (h0 : 0 ≤ i) (hi : i < l.length) : ownG l i = ownAt l i := by
  unfold ownG; rw [if_neg (by simp [h]; omega)]
theorem d12 (l : List Dr) (n : Int) : Spec Try.prog 12 [lst 6 (drs l), .int .i64 n] (fun r => r = .int .i64 (ownG l n)) := by
  refine Spec.of_awlS hf12 okf12 (by simp) fun S hS => ?_
  unfold ownG at hS
  simp only [normRows_drs, Qs, Nat.reduceAdd, Nat.reduceBEq, uu f12.eq_1, vv f12r6.eq_1, uu f12b7.eq_1, uu f12b8.eq_1, vv f12r9.eq_1, uu f12b10.eq_1]
  refine call_s (d10 l) ?_ (ha := by simp [lendL, lendO, lookO, V.norm, norm_list, lst, normRows_drs])
  by_cases h : chkG l = 0
  case neg =>
    have hb : (chkG l != 0) = true := by simpa using h
    rw [if_pos (.inl h)] at hS
    simp only [hb, drs_len, normRows_drs, Qs, if_true, List.nodup_nil, Nat.reduceBEq, vv f12r3.eq_1, uu f12b4.eq_1, uu f12b5.eq_1]
    exact hS
  have hb : (chkG l != 0) = false := by simpa using h
  by_cases h1 : n < 0
  · rw [if_pos (.inr (.inl h1))] at hS
    simp only [hb, h1, drs_len, normRows_drs, Qs, if_true, if_false, List.nodup_nil, Nat.reduceBEq, vv f12r3.eq_1, uu f12b4.eq_1, uu f12b5.eq_1]
    exact hS
  by_cases h2 : n ≥ (l.length : Int)
  · rw [if_pos (.inr (.inr h2))] at hS
    simp only [hb, h1, h2, drs_len, normRows_drs, Qs, if_true, if_false, List.nodup_nil, Nat.reduceBEq, vv f12r3.eq_1, uu f12b4.eq_1, uu f12b5.eq_1]
    exact hS
  rw [if_neg (by rintro (g | g | g); exact g h; exact h1 g; exact h2 g)] at hS
  have hA : (ints (ownL l)).getD n.toNat [] = [.int .i64 (ownAt l n)] := by
    rw [ints_getD (by rw [ownL_len]; omega), ownL_at (by omega), show ((n.toNat : Nat) : Int) = n by omega]
  have h3 : 0 ≤ n := by omega
  have h4 : n < (l.length : Int) := by omega
  simp only [hb, h1, h2, drs_len, normRows_drs, Qs, if_true, if_false, Nat.reduceBEq, vv f12r1.eq_1, uu f12b2.eq_1, uu f12b5.eq_1]
  refine call_r (d29 l (right_of h)) ?_ (ha := by simp [lendL, lendO, lookO, V.norm, norm_list, lst, normRows_drs])
  simp only [h3, h4, hA, ownL_len, ints_len, Qs, List.nodup_nil, Nat.reduceBEq]
  exact hS
theorem d13 (l : List Dr) (n : Int) : Spec Try.prog 13 [lst 6 (drs l), .int .i64 n] (fun r => r = .int .i64 (ownG l n)) := by
  refine Spec.of_awlS hf13 okf13 (by simp) fun S hS => ?_
  unfold ownG at hS
  simp only [normRows_drs, Qs, Nat.reduceAdd, Nat.reduceBEq, uu f13.eq_1, vv f13r24.eq_1, uu f13b25.eq_1, uu f13b26.eq_1, vv f13r27.eq_1, uu f13b28.eq_1]
  refine call_s (d11 l) ?_ (ha := by simp [lendL, lendO, lookO, V.norm, norm_list, lst, normRows_drs])
  by_cases h : chkG l = 0
  case neg =>
    have hb : (chkG l != 0) = true := by simpa using h
    rw [if_pos (.inl h)] at hS
    simp only [hb, drs_len, normRows_drs, Qs, if_true, List.nodup_nil, Nat.reduceBEq, vv f13r21.eq_1, uu f13b22.eq_1, uu f13b23.eq_1]
    exact hS
  have hb : (chkG l != 0) = false := by simpa using h
  by_cases h1 : n < 0
  · rw [if_pos (.inr (.inl h1))] at hS
    simp only [hb, h1, drs_len, normRows_drs, Qs, if_true, if_false, List.nodup_nil, Nat.reduceBEq, vv f13r21.eq_1, uu f13b22.eq_1, uu f13b23.eq_1]
    exact hS
  by_cases h2 : n ≥ (l.length : Int)
  · rw [if_pos (.inr (.inr h2))] at hS
    simp only [hb, h1, h2, drs_len, normRows_drs, Qs, if_true, if_false, List.nodup_nil, Nat.reduceBEq, vv f13r21.eq_1, uu f13b22.eq_1, uu f13b23.eq_1]
    exact hS
  rw [if_neg (by rintro (g | g | g); exact g h; exact h1 g; exact h2 g)] at hS
  have h3 : 0 ≤ n := by omega
  have h4 : n < (l.length : Int) := by omega
  have hat := drs_dat h3 h4
  have hR := right_of h
  have hl := hR.len
  have hsn := hR.sum _ (dat_mem h3 h4)
  simp only [hb, h1, h2, h3, h4, hat, drs_len, normRows_drs, Qs, if_true, if_false, Nat.reduceAdd, Nat.reduceLeDiff, Nat.reduceBEq, uu f13b15.eq_1, vv f13r16.eq_1, uu f13b17.eq_1, uu f13b18.eq_1, vv f13r19.eq_1, uu f13b20.eq_1, uu f13b23.eq_1]
  rw [uu f13l14.eq_1]
  refine awl_loop (fun i : Nat => [(0, lst 6 (drs l)), (1, .int .i64 n), (5, .int .i64 ((dat l n).s - covS (l.take i) n)), (6, .int .i64 i)]) (fun _ => []) (fun i => i ≤ l.length) (fun i => l.length - i) 0 (by simp [covS, sumI]; rfl) rfl (Nat.zero_le _) ?_
  intro i hi
  by_cases hlt : i < l.length
  · have c1 : (i : Int) < l.length := by omega
    have c4 : IntKind.i64.wrap ((i : Int) + 1) = (i : Int) + 1 := wrap_in (by omega) (by omega)
    have ht := covS_take hlt n
    have hsx := hR.sum _ (dat_mem (l := l) (i := (i : Int)) (by omega) (by omega))
    have hb1 := covS_bound (l := l.take i) (fun x hx => hR.sum x (List.mem_of_mem_take hx)) n
    have hb3 : (l.take i).length ≤ 100 := by rw [List.length_take]; omega
    have hb4 : ((l.take i).length : Int) * 1099511627776 ≤ 100 * 1099511627776 := Int.mul_le_mul_of_nonneg_right (by omega) (by omega)
    have hai := drs_nat hlt
    generalize dat l (i : Int) = x at hai ht hsx
    by_cases e : x.c = n
    · have eb : (x.c == n) = true := by simpa using e
      have w : IntKind.i64.wrap ((dat l n).s - covS (l.take i) n - x.s) = (dat l n).s - covS (l.take (i + 1)) n := by rw [ht, if_pos e, wrap_in (by omega) (by omega)]; omega
      simp only [c1, c4, eb, w, hai, drs_len, normRows_drs, Qs, if_true, Nat.reduceAdd, Nat.reduceLeDiff, Nat.reduceBEq, vv f13r3.eq_1, vv f13r4.eq_1, uu f13b5.eq_1, vv f13r6.eq_1, uu f13b7.eq_1, uu f13b8.eq_1, uu f13b9.eq_1, uu f13b10.eq_1, vv f13r11.eq_1, uu f13b12.eq_1, uu f13b13.eq_1]
      exact Next.intro (i + 1) rfl rfl (by omega) (by omega)
    · have eb : (x.c == n) = false := by simpa using e
      rw [if_neg e, Int.add_zero] at ht
      simp only [c1, c4, eb, hai, drs_len, normRows_drs, Qs, if_true, Nat.reduceAdd, Nat.reduceBEq, vv f13r3.eq_1, vv f13r4.eq_1, uu f13b5.eq_1, vv f13r6.eq_1, uu f13b7.eq_1, uu f13b8.eq_1, uu f13b9.eq_1, uu f13b10.eq_1, vv f13r11.eq_1, uu f13b12.eq_1, uu f13b13.eq_1]
      exact Next.intro (i + 1) (by simp only [ht]; rfl) rfl (by omega) (by omega)
  · obtain rfl : i = l.length := by omega
    have c1 : ¬ (l.length : Int) < l.length := by omega
    rw [List.take_length]
    simp only [c1, drs_len, Qs, q_exL_eq_34, if_true, List.nodup_nil, Nat.reduceBEq, vv f13r1.eq_1, uu f13b2.eq_1, uu f13b10.eq_1, vv f13r11.eq_1, uu f13b12.eq_1, uu f13b13.eq_1]
    refine fin hS ?_
    unfold ownAt
    congr 3
    split <;> omega
end Go.Abs


set_option maxRecDepth 100000
set_option maxHeartbeats 4000000
namespace Go.Abs
open Go.Sort Go.Proofs Go.Shelf Go.Lib Go.RowKit
def oneF (e : TypeId) (τ : Nat) (l : List Int) : Nat → Option O := fun s => if s = τ then some (.arr e 1 (some false) (intRows l)) else none
theorem d43 (τ : Nat) (l : List Int) (hne : l ≠ []) (hl : l.length ≤ 9223372036854775807) : SpecS Try.prog 43 [.k (.own τ)] (oneI 3 τ l) [τ] (fun r o' => r = .tup [] ∧ o' = oneF 3 τ l.reverse) := by
  refine ⟨callable_at (by kernel_rfl), fun w0 Z0 κ w vs hsz hi => ?_⟩
  obtain ⟨v, rfl⟩ := vs_one hsz
  have ho : (oneI 3 τ l) τ = some (.arr 3 1 none (intRows l)) := by simp [oneI]
  have hno : ∀ s, s ≠ τ → oneI 3 τ l s = none := fun s hs => by simp [oneI, hs]
  have hob := hi.objs τ _ ho
  have htm : VRep w (Zof w0 Z0 κ (oneI 3 τ l) w) κ (oneI 3 τ l) (.k (.own τ)) v := by simpa using hi.tmps 0
  rcases hob with ⟨hκ, hrows, _⟩ | ⟨b, cur, cap, hκ, hheap, h0, hcs, hlen, hcap, _, hall, hrr⟩
  · exact absurd (by simpa [intRows] using hrows) hne
  · obtain ⟨cap', hv, hcap'⟩ : ∃ cap', v = .slice (some ⟨b, 0, none⟩) l.length cap' ∧ cur.size = cap' * 1 := by
      rcases htm.2 3 1 none _ ho with ⟨hn, _⟩ | ⟨b', cur', cap', hb, hh, hc2, hv⟩
      · rw [hκ] at hn; cases hn
      · rw [hκ] at hb; cases hb
        rw [hheap] at hh; cases hh
        exact ⟨cap', by simpa [intRows] using hv, hc2⟩
    subst hv
    have hlt : b < w.heap.size := heap_lt hheap
    have hH := holds_of_blockI hheap (cells_of_rep hrr)
    refine (Any.slices_Reverse_int Try.laysReverse b 0 cap' l w hH hl).mono ?_
    rintro ex w' ⟨rfl, n, rfl⟩
    have hls : l.reverse.length = l.length := List.length_reverse
    have hle : l.length ≤ cur.size := by
      have : (intRows l).length = l.length := by simp [intRows]
      rw [this] at hlen; omega
    have hh2 := heap_sortedI (w := w) (n := n) (os := #[]) l.reverse.toArray hheap
    have hg := grownBy_sortedI (w := w) (g := b) (n := n) (os := #[]) l.reverse.toArray
    rw [grow_empty] at hh2 hg
    have htk := take_putCellsI cur l.reverse (by omega)
    have hsz2 : (putCells (Value.int .i64) 0 l.reverse.toArray cur).size = cur.size := by simp [putCells]
    obtain ⟨g1, g2, g3, g4, g5⟩ := hg
    have hI := hi.moveG (τ := τ) (d := 0) (ob := .arr 3 1 (some false) (intRows l.reverse)) (v := .tup []) (u := .tuple #[]) (bo := some b) (w' := putRow (Value.int .i64) (Sort.ahead w n) b 0 l.reverse.toArray) ho (by simp) g1 g2 g3 g4
      (fun k hk hne => g5 k hk (by rw [hκ] at hne; exact fun h => hne (by cases h; rfl))) (fun b' hb => .inr (by cases hb; exact hκ))
      (fun Z _ => .inr ⟨b, _, cap, by simp, hh2, by omega, by rw [hsz2]; exact hcs, by simp only [intRows, List.length_map, hls]; simpa [intRows] using hlen, hcap, by simp, rows_len _, rep_of_cells (by rw [hls]; rw [hls] at htk; exact htk)⟩) ⟨#[], rfl, rfl, trivial⟩
    rw [state_eq _ _ hno] at hI
    refine ⟨.tuple #[], _, .tup [], _, rfl, ⟨rfl, rfl⟩, ?_, hI⟩
    intro s hs
    simp only [List.mem_singleton] at hs
    subst hs
    refine ⟨by simp [oneI, oneF, Like, intRows, hls], by simp [hκ], fun _ b' hb cur0 e0 f0 hc0 => ?_⟩
    rw [hκ] at hb; cases hb
    rw [hheap] at hc0; cases hc0
    exact ⟨_, hh2, hsz2⟩
theorem call_rev {P : Program} {f d τ : Nat} {xs : List AX} {K : KK} {ts : TS} {os : OS} {nl : Option Bool} {X : Prop} (l : List Int) (hs : SpecS P f [.k (.own τ)] (oneI 3 τ l) [τ] (fun r o' => r = .tup [] ∧ o' = oneF 3 τ l.reverse)) (ho : lookO τ os = some (.arr 3 1 nl (intRows l)))
    (hk : K (insT d (.tup []) ts) (insO τ (.arr 3 1 (some false) (intRows l.reverse)) os)) : X ∨ callSF P f [.k (.own τ)] xs K (some d) ts os := by
  refine .inr (.inl ?_)
  refine ⟨[τ], [τ], [], fun r o' => r = .tup [] ∧ o' = oneF 3 τ l.reverse, by simp [V.within, Abs.K.within], rfl, ?_, fun s hs => .inl hs, ?_, ?_⟩
  · intro s hs ob hob
    simp only [List.mem_singleton] at hs
    subst hs
    rw [ho] at hob; cases hob; rfl
  · rw [tab_one ho]; exact hs
  · rintro r o' ⟨rfl, rfl⟩
    refine ⟨fun s hs => by simp at hs; simp [oneF, hs], rfl, fun s ob h => ?_, ?_⟩
    · unfold oneF at h
      split at h
      · cases h; rfl
      · cases h
    · have e : (mkS ts os).back [τ] [] (oneF 3 τ l.reverse) = mkS ts (insO τ (.arr 3 1 (some false) (intRows l.reverse)) os) := by
        simp only [St.back, mkS, St.mk.injEq]
        refine ⟨by funext s; rfl, ?_⟩
        funext s
        rw [lookO_ins]
        by_cases h : s = τ
        · subst h; simp [oneF]
        · simp only [List.contains_cons, List.contains_nil, Bool.or_false, beq_iff_eq, h, if_false]
          cases lookO s os <;> rfl
      show onS K (((mkS ts os).back [τ] [] (oneF 3 τ l.reverse)).put d (.tup []))
      rw [e, mkS_put]; exact onS_mk hk
theorem upG_eq {l : List Dr} {a i : Int} {ch : List Int} (m : Nat) : upG l a (m + 1) i ch = if i = -1 then [] else if (dat l i).d = a then (ch ++ [i]).reverse else upG l a m (dat l i).c (ch ++ [i]) := rfl
theorem d31 (l : List Dr) (hR : RightD l) (x : Int) (h0 : 0 ≤ x) (hx : x < l.length) : Spec Try.prog 31 [lst 6 (drs l), .int .i64 x] (fun r => r = .k (.newl 3 1 (some (decide (closG l x = []))) (ints (closG l x)))) := by
  refine Spec.of_awlX hf31 okf31 (by simp) fun S hS => ?_
  have hat := drs_dat h0 hx
  have hcx := hR.cov x h0 hx
  have hll := hR.len
  simp only [h0, hx, hat, drs_len, normRows_drs, Qs, forall_eq, bne_iff_ne, ne_eq, List.mem_cons, Nat.reduceAdd, Nat.reduceEqDiff, Nat.reduceLT, Nat.reduceBEq, List.not_mem_nil, uu f31.eq_1, uu f31b20.eq_1, vv f31r21.eq_1, uu f31b22.eq_1, uu f31b23.eq_1, vv f31r24.eq_1, uu f31b25.eq_1, vv f31r26.eq_1, uu f31b27.eq_1]
  rw [uu f31l19.eq_1]
  refine awl_loop (fun z : Nat × Int × List Int => [(0, lst 6 (drs l)), (1, .int .i64 x), (5, .k (.own 8)), (6, .int .i64 z.2.1)]) (fun z => [(8, .arr 3 1 (some false) (ints z.2.2))])
    (fun z => -1 ≤ z.2.1 ∧ z.2.1 < z.1 ∧ z.1 ≤ l.length ∧ z.2.2.length + z.1 ≤ 200 ∧ upG l (dat l x).a z.1 z.2.1 z.2.2 = closG l x) (fun z => z.1) (l.length, (dat l x).c, [x]) rfl rfl ⟨by show -1 ≤ (dat l x).c; omega, by show (dat l x).c < _; omega, Nat.le_refl _, by simp; omega, rfl⟩ ?_
  rintro ⟨m, i, ch⟩ ⟨hi0, hi1, hm, hch, hu⟩
  simp only [] at hi0 hi1 hm hch hu
  by_cases hi : i = -1
  · have hb : (i != -1) = false := by simp [hi]
    have e : closG l x = [] := by
      rw [← hu, hi]
      cases m with
      | zero => rfl
      | succ m => rw [upG_eq, if_pos rfl]
    rw [e] at hS
    simp only [hb, endKX_ret, endKX_normal, Qs, if_true, bne_iff_ne, ne_eq, Int.reduceNeg, List.nodup_nil, List.nodup_cons, Nat.reduceEqDiff, Nat.reduceBEq, List.not_mem_nil, vv f31r1.eq_1, uu f31b2.eq_1, uu f31b15.eq_1, vv f31r16.eq_1, uu f31b17.eq_1, uu f31b18.eq_1]
    exact hS
  · have hb : (i != -1) = true := by simp [hi]
    have i0 : 0 ≤ i := by omega
    have i1 : i < (l.length : Int) := by omega
    have hai := drs_dat i0 i1
    have hci := hR.cov i i0 i1
    obtain ⟨m, rfl⟩ : ∃ m', m = m' + 1 := ⟨m - 1, by omega⟩
    rw [upG_eq, if_neg hi] at hu
    have q1 : ch.length + 1 ≤ 9223372036854775807 := by omega
    have q2 : (ch.length + 1) * 8 ≤ 140737488355328 := by omega
    by_cases hd : (dat l i).d = (dat l x).a
    · have hdb : ((dat l i).d == (dat l x).a) = true := by simpa using hd
      rw [if_pos hd] at hu
      simp only [hb, hdb, i0, i1, h0, hx, hai, hat, q1, q2, drs_len, normRows_drs, ints_len, ints_snoc, Qs, if_true, if_false, forall_eq, bne_iff_ne, ne_eq, Int.reduceNeg, List.mem_cons, Nat.reduceAdd, Nat.reduceEqDiff, Nat.reduceLeDiff, Nat.reduceLT, Nat.reduceBEq, List.not_mem_nil, vv f31r3.eq_1, vv f31r6.eq_1, uu f31b7.eq_1, uu f31b8.eq_1, vv f31r9.eq_1, uu f31b10.eq_1, vv f31r11.eq_1, uu f31b12.eq_1, uu f31b13.eq_1, uu f31b14.eq_1, uu f31b15.eq_1, vv f31r16.eq_1, uu f31b17.eq_1, uu f31b18.eq_1]
      refine call_rev (ch ++ [i]) (d43 8 (ch ++ [i]) (by simp) (by simp; omega)) rfl ?_
      rw [hu]
      simp only [endKX_ret, endKX_normal, Qs, if_true, Int.reduceNeg, List.nodup_nil, List.nodup_cons, Nat.reduceBEq, List.not_mem_nil, vv f31r4.eq_1, uu f31b5.eq_1]
      have : closG l x ≠ [] := by rw [← hu]; simp
      rw [decide_eq_false this] at hS
      exact hS
    · have hdb : ((dat l i).d == (dat l x).a) = false := by simpa using hd
      rw [if_neg hd] at hu
      simp only [hb, hdb, i0, i1, h0, hx, hai, hat, q1, q2, drs_len, normRows_drs, ints_len, ints_snoc, Qs, if_true, if_false, forall_eq, bne_iff_ne, ne_eq, Int.reduceNeg, List.mem_cons, Nat.reduceAdd, Nat.reduceEqDiff, Nat.reduceLeDiff, Nat.reduceLT, Nat.reduceBEq, List.not_mem_nil, vv f31r3.eq_1, uu f31b8.eq_1, vv f31r9.eq_1, uu f31b10.eq_1, vv f31r11.eq_1, uu f31b12.eq_1, uu f31b13.eq_1, uu f31b14.eq_1, uu f31b15.eq_1, vv f31r16.eq_1, uu f31b17.eq_1, uu f31b18.eq_1]
      exact Next.intro (m, (dat l i).c, ch ++ [i]) rfl rfl ⟨by show -1 ≤ (dat l i).c; omega, by show (dat l i).c < _; omega, by omega, by simp; omega, hu⟩ (Nat.lt_succ_self m)
end Go.Abs


set_option maxRecDepth 100000
namespace Go.Proofs
open Go.Shelf Go.RowKit Go.Lib Go.Sort
def Try.laysSortF_ren : Go.Shelf.Ren :=
  {
    f := fun x =>
      match x with
      | 6 => 32
      | 15 => 45
      | 14 => 44
      | 28 => 63
      | 29 => 64
      | 20 => 55
      | 21 => 56
      | 22 => 57
      | 23 => 58
      | 24 => 59
      | 25 => 60
      | 26 => 61
      | 27 => 62
      | 46 => 68
      | 47 => 69
      | 48 => 70
      | 49 => 71
      | 50 => 72
      | 57 => 74
      | n => n,
    t := fun x =>
      match x with
      | 22 => 32
      | 24 => 25
      | 25 => 53
      | 3 => 3
      | 39 => 64
      | 0 => 0
      | 53 => 81
      | 55 => 83
      | 4 => 4
      | 46 => 74
      | 45 => 73
      | 50 => 78
      | 5 => 5
      | 9 => 9
      | 66 => 85
      | 70 => 89
      | 76 => 92
      | 77 => 93
      | n => n,
    g := fun n => n }
theorem Try.laysSortF : SlLaysF0.n6 Try.prog Try.laysSortF_ren :=
  { mixed := by kernel_rfl,
    f6 :=
      Exists.intro "slices.SortFunc[[]allonge/api.Kite,allonge/api.Kite]"
        ⟨of_decide_eq_true (id (Eq.refl true)),
          Eq.trans Try.func32
            (congrArg some
              (Eq.refl
                { SlBodyF.n6 Try.laysSortF_ren with name := "slices.SortFunc[[]allonge/api.Kite,allonge/api.Kite]" }))⟩,
    f14 :=
      Exists.intro "slices.pdqsortCmpFunc[allonge/api.Kite]"
        ⟨of_decide_eq_true (id (Eq.refl true)),
          Eq.trans Try.func44
            (congrArg some
              (Eq.refl
                { SlBodyF.n14 Try.laysSortF_ren with name := "slices.pdqsortCmpFunc[allonge/api.Kite]" }))⟩,
    f15 := Eq.trans Try.func45 (congrArg some (Eq.refl (SlBodyF.n15 Try.laysSortF_ren))),
    f20 :=
      Exists.intro "slices.insertionSortCmpFunc[allonge/api.Kite]"
        ⟨of_decide_eq_true (id (Eq.refl true)),
          Eq.trans Try.func55
            (congrArg some
              (Eq.refl
                { SlBodyF.n20 Try.laysSortF_ren with name := "slices.insertionSortCmpFunc[allonge/api.Kite]" }))⟩,
    f21 :=
      Exists.intro "slices.heapSortCmpFunc[allonge/api.Kite]"
        ⟨of_decide_eq_true (id (Eq.refl true)),
          Eq.trans Try.func56
            (congrArg some
              (Eq.refl
                { SlBodyF.n21 Try.laysSortF_ren with name := "slices.heapSortCmpFunc[allonge/api.Kite]" }))⟩,
    f22 :=
      Exists.intro "slices.breakPatternsCmpFunc[allonge/api.Kite]"
        ⟨of_decide_eq_true (id (Eq.refl true)),
          Eq.trans Try.func57
            (congrArg some
              (Eq.refl
                { SlBodyF.n22 Try.laysSortF_ren with name := "slices.breakPatternsCmpFunc[allonge/api.Kite]" }))⟩,
    f23 :=
      Exists.intro "slices.choosePivotCmpFunc[allonge/api.Kite]"
        ⟨of_decide_eq_true (id (Eq.refl true)),
          Eq.trans Try.func58
            (congrArg some
              (Eq.refl
                { SlBodyF.n23 Try.laysSortF_ren with name := "slices.choosePivotCmpFunc[allonge/api.Kite]" }))⟩,
    f24 :=
      Exists.intro "slices.reverseRangeCmpFunc[allonge/api.Kite]"
        ⟨of_decide_eq_true (id (Eq.refl true)),
          Eq.trans Try.func59
            (congrArg some
              (Eq.refl
                { SlBodyF.n24 Try.laysSortF_ren with name := "slices.reverseRangeCmpFunc[allonge/api.Kite]" }))⟩,
    f25 :=
      Exists.intro "slices.partialInsertionSortCmpFunc[allonge/api.Kite]"
        ⟨of_decide_eq_true (id (Eq.refl true)),
          Eq.trans Try.func60
            (congrArg some
              (Eq.refl
                { SlBodyF.n25 Try.laysSortF_ren with name := "slices.partialInsertionSortCmpFunc[allonge/api.Kite]" }))⟩,
    f26 :=
      Exists.intro "slices.partitionEqualCmpFunc[allonge/api.Kite]"
        ⟨of_decide_eq_true (id (Eq.refl true)),
          Eq.trans Try.func61
            (congrArg some
              (Eq.refl
                { SlBodyF.n26 Try.laysSortF_ren with name := "slices.partitionEqualCmpFunc[allonge/api.Kite]" }))⟩,
    f27 :=
      Exists.intro "slices.partitionCmpFunc[allonge/api.Kite]"
        ⟨of_decide_eq_true (id (Eq.refl true)),
          Eq.trans Try.func62
            (congrArg some
              (Eq.refl
                { SlBodyF.n27 Try.laysSortF_ren with name := "slices.partitionCmpFunc[allonge/api.Kite]" }))⟩,
    f28 := Eq.trans Try.func63 (congrArg some (Eq.refl (SlBodyF.n28 Try.laysSortF_ren))),
    f29 := Eq.trans Try.func64 (congrArg some (Eq.refl (SlBodyF.n29 Try.laysSortF_ren))),
    f46 :=
      Exists.intro "slices.siftDownCmpFunc[allonge/api.Kite]"
        ⟨of_decide_eq_true (id (Eq.refl true)),
          Eq.trans Try.func68
            (congrArg some
              (Eq.refl
                { SlBodyF.n46 Try.laysSortF_ren with name := "slices.siftDownCmpFunc[allonge/api.Kite]" }))⟩,
    f47 := Eq.trans Try.func69 (congrArg some (Eq.refl (SlBodyF.n47 Try.laysSortF_ren))),
    f48 := Eq.trans Try.func70 (congrArg some (Eq.refl (SlBodyF.n48 Try.laysSortF_ren))),
    f49 :=
      Exists.intro "slices.medianAdjacentCmpFunc[allonge/api.Kite]"
        ⟨of_decide_eq_true (id (Eq.refl true)),
          Eq.trans Try.func71
            (congrArg some
              (Eq.refl
                { SlBodyF.n49 Try.laysSortF_ren with name := "slices.medianAdjacentCmpFunc[allonge/api.Kite]" }))⟩,
    f50 :=
      Exists.intro "slices.medianCmpFunc[allonge/api.Kite]"
        ⟨of_decide_eq_true (id (Eq.refl true)),
          Eq.trans Try.func72
            (congrArg some
              (Eq.refl
                { SlBodyF.n50 Try.laysSortF_ren with name := "slices.medianCmpFunc[allonge/api.Kite]" }))⟩,
    f57 :=
      Exists.intro "slices.order2CmpFunc[allonge/api.Kite]"
        ⟨of_decide_eq_true (id (Eq.refl true)),
          Eq.trans Try.func74
            (congrArg some
              (Eq.refl
                { SlBodyF.n57 Try.laysSortF_ren with name := "slices.order2CmpFunc[allonge/api.Kite]" }))⟩,
    t0 := Try.underlying0, a0 := Try.isAgg0, z0 := Try.sizeOf0, v0 := Try.zeroValue0, t3 := Try.underlying3,
    a3 := Try.isAgg3, z3 := Try.sizeOf3, v3 := Try.zeroValue3, t4 := Try.underlying4, a4 := Try.isAgg4, z4 := Try.sizeOf4,
    v4 := Try.zeroValue4, t5 := Try.underlying5, a5 := Try.isAgg5, z5 := Try.sizeOf5, v5 := Try.zeroValue5,
    t9 := Try.underlying9, a9 := Try.isAgg9, z9 := Try.sizeOf9, v9 := Try.zeroValue9, t22 := Try.underlying32,
    a22 := Try.isAgg32, z22 := Try.sizeOf32, v22 := Try.zeroValue32, t25 := Try.underlying53, a25 := Try.isAgg53,
    z25 := Try.sizeOf53, v25 := Try.zeroValue53, t39 := Try.underlying64, a39 := Try.isAgg64, z39 := Try.sizeOf64,
    v39 := Try.zeroValue64, t45 := Try.underlying73, a45 := Try.isAgg73, z45 := Try.sizeOf73, v45 := Try.zeroValue73,
    t46 := Try.underlying74, a46 := Try.isAgg74, z46 := Try.sizeOf74, v46 := Try.zeroValue74, t50 := Try.underlying78,
    a50 := Try.isAgg78, z50 := Try.sizeOf78, v50 := Try.zeroValue78, t53 := Try.underlying81, a53 := Try.isAgg81,
    z53 := Try.sizeOf81, v53 := Try.zeroValue81, t55 := Try.underlying83, a55 := Try.isAgg83, z55 := Try.sizeOf83,
    v55 := Try.zeroValue83, t66 := Try.underlying85, a66 := Try.isAgg85, z66 := Try.sizeOf85, v66 := Try.zeroValue85,
    t70 := Try.underlying89, a70 := Try.isAgg89, z70 := Try.sizeOf89, v70 := Try.zeroValue89, t76 := Try.underlying92,
    a76 := Try.isAgg92, z76 := Try.sizeOf92, v76 := Try.zeroValue92, t77 := Try.underlying93, a77 := Try.isAgg93,
    z77 := Try.sizeOf93, v77 := Try.zeroValue93 }
def Try.laysCmp_ren : Go.Shelf.Ren :=
  {
    f := fun x =>
      match x with
      | 5 => 46
      | 7 => 65
      | n => n,
    t := fun x =>
      match x with
      | 22 => 3
      | 3 => 3
      | 4 => 4
      | n => n,
    g := fun n => n }
theorem Try.laysCmp : SlLaysC2.n5 Try.prog Try.laysCmp_ren :=
  { mixed := by kernel_rfl,
    f5 :=
      Exists.intro "cmp.Compare[int]"
        ⟨of_decide_eq_true (id (Eq.refl true)),
          Eq.trans Try.func46
            (congrArg some
              (Eq.refl
                { SlBodyC2.n5 Try.laysCmp_ren with name := "cmp.Compare[int]" }))⟩,
    f7 :=
      Exists.intro "cmp.isNaN[int]"
        ⟨of_decide_eq_true (id (Eq.refl true)),
          Eq.trans Try.func65
            (congrArg some
              (Eq.refl
                { SlBodyC2.n7 Try.laysCmp_ren with name := "cmp.isNaN[int]" }))⟩,
    t3 := Try.underlying3, a3 := Try.isAgg3, z3 := Try.sizeOf3, v3 := Try.zeroValue3, t4 := Try.underlying4,
    a4 := Try.isAgg4, z4 := Try.sizeOf4, v4 := Try.zeroValue4, t22 := Try.underlying3, a22 := Try.isAgg3,
    z22 := Try.sizeOf3, v22 := Try.zeroValue3 }
end Go.Proofs


set_option maxRecDepth 100000
set_option maxHeartbeats 4000000
namespace Go.Abs
def cmpL : List Int → List Int → Int
  | [], [] => 0
  | [], _ :: _ => -1
  | _ :: _, [] => 1
  | a :: x, b :: y => if Lib.compareInt a b ≠ 0 then Lib.compareInt a b else cmpL x y
def cmpKi (a b : List Int) : Int := if (a.length : Int) - b.length ≠ 0 then (a.length : Int) - b.length else cmpL a b
theorem compareInt_cases (a b : Int) : (a < b ∧ Lib.compareInt a b = -1) ∨ (a = b ∧ Lib.compareInt a b = 0) ∨ (b < a ∧ Lib.compareInt a b = 1) := by
  unfold Lib.compareInt
  rcases Int.lt_trichotomy a b with h | h | h
  · exact .inl ⟨h, by simp [h]⟩
  · exact .inr (.inl ⟨h, by subst h; simp⟩)
  · refine .inr (.inr ⟨h, ?_⟩)
    rw [if_neg (by omega), if_pos h]
theorem cmpL_bef : ∀ x y : List Int, x.length = y.length → (cmpL x y < 0 ↔ bef x y = true)
  | [], [], _ => by simp [cmpL, bef]
  | [], _ :: _, h => by simp at h
  | _ :: _, [], h => by simp at h
  | a :: x, b :: y, h => by
    rw [cmpL, bef]
    rcases compareInt_cases a b with ⟨h1, h2⟩ | ⟨h1, h2⟩ | ⟨h1, h2⟩
    · rw [h2, if_pos (by decide), if_pos (by omega)]; simp [h1]
    · rw [h2, if_neg (by decide), if_neg (by simp [h1])]
      exact cmpL_bef x y (by simpa using h)
    · rw [h2, if_pos (by decide), if_pos (by omega)]; simp; omega
theorem cmpKi_lt (x y : Ki) : decide (cmpKi x.dr y.dr < 0) = ltK x y := by
  unfold cmpKi ltK
  by_cases h : x.dr.length = y.dr.length
  · rw [if_neg (by omega), Bool.eq_iff_iff, decide_eq_true_eq, cmpL_bef _ _ h]
    simp [h]
  · rw [if_pos (by omega), Bool.eq_iff_iff, decide_eq_true_eq]
    simp [h]; omega
end Go.Abs
namespace Go.Proofs
open Go.Shelf Go.RowKit Go.Lib Go.Sort Go.Abs
theorem aside5 {p : Prop} (h : p) : Aside p := h
def IntsAt (w : World) (p : Option Addr) (b o : Nat) (x : List Int) : Prop := (x.length ≠ 0 → p = some ⟨b, o, none⟩) ∧ ∀ j, j < x.length → w.cell? ⟨b, o + j, none⟩ = some (.int .i64 (x.getD j 0))
theorem compare34 (b1 o1 c1 b2 o2 c2 : Nat) (p1 p2 : Option Addr) (x y : List Int) (w : World) (hx : x.length ≤ 1000) (hy : y.length ≤ 1000) (I : Aside (IntsAt w p1 b1 o1 x ∧ IntsAt w p2 b2 o2 y)) :
    Calls Try.prog 34 #[.slice p1 x.length c1, .slice p2 y.length c2] w fun e w' => e = .returned (.int .i64 (cmpL x y)) ∧ w' = w := by
  have hc46 : ∀ a b W, Calls Try.prog 46 #[.int .i64 a, .int .i64 b] W fun e w' => e = .returned (.int .i64 (Lib.compareInt a b)) ∧ w' = W := fun a b W => AnyG.cmp_Compare_int Try.laysCmp a b W
  go_enter Try.func34, Try.ntmps34
  go_wp2
  go_loopg [11] x.length (fun g i wr => ∃ k, k ≤ x.length ∧ g = x.length - k ∧ i = .int .i64 (k : Nat) ∧ wr = w ∧ k ≤ y.length ∧ cmpL (x.drop k) (y.drop k) = cmpL x y)
  case atStart => exact ⟨0, Nat.zero_le _, rfl, rfl, rfl, Nat.zero_le _, rfl⟩
  case round =>
    obtain ⟨k, hk, rfl, rfl, rfl, hky, hR⟩ := hrel
    by_cases hlt : k < x.length
    · have hlt' : (k : Int) < x.length := by omega
      obtain rfl := I.out.1.1 (by omega)
      have f1 := I.out.1.2 k hlt
      by_cases hyt : k < y.length
      · have hyt' : (k : Int) < y.length := by omega
        obtain rfl := I.out.2.1 (by omega)
        have f2 := I.out.2.2 k hyt
        have e1 : x.getD k 0 = x[k] := by simp [List.getD, hlt]
        have e2 : y.getD k 0 = y[k] := by simp [List.getD, hyt]
        rw [List.drop_eq_getElem_cons hlt, List.drop_eq_getElem_cons hyt, cmpL, ← e1, ← e2] at hR
        generalize x.getD k 0 = a at f1 hR
        generalize y.getD k 0 = b at f2 hR
        have c46 := hc46 a b
        generalize Lib.compareInt a b = r at c46 hR
        have R := aside5 hR
        clear hR e1 e2 hc46
        by_cases hr : r = 0
        · subst hr
          go_wp2_with (go_at_call 46; refine (c46 _).mono ?_; rintro e w1 ⟨rfl, rfl⟩)
          have wk : IntKind.i64.wrap ((k : Int) + 1) = ((k + 1 : Nat) : Int) := by rw [Go.Abs.wrap_in (by omega) (by omega)]; omega
          go_roundg (x.length - (k + 1))
          case rel => exact ⟨k + 1, hlt, rfl, by go_num, rfl, hyt, by have := R.out; rwa [if_neg (by simp)] at this⟩
          case measure => omega
        · go_wp2_with (go_at_call 46; refine (c46 _).mono ?_; rintro e w1 ⟨rfl, rfl⟩)
          go_ret
          have := R.out
          rw [if_pos hr] at this
          exact ⟨by rw [← this]; rfl, rfl⟩
      · have hyt' : (k : Int) ≥ y.length := by omega
        have e1 : y.drop k = [] := List.drop_of_length_le (by omega)
        rw [e1, List.drop_eq_getElem_cons hlt, cmpL] at hR
        have R := aside5 hR
        clear hR e1 hc46
        go_wp2
        go_ret
        exact ⟨by rw [← R.out]; rfl, rfl⟩
    · obtain rfl : k = x.length := by omega
      rw [List.drop_length] at hR
      have R := aside5 hR
      clear hR hc46
      by_cases hyt : x.length < y.length
      · have hyt' : (x.length : Int) < y.length := by omega
        go_wp2
        go_ret
        have := R.out
        rw [List.drop_eq_getElem_cons hyt, cmpL] at this
        exact ⟨by rw [← this]; rfl, rfl⟩
      · have hyt' : ¬ (x.length : Int) < y.length := by omega
        go_wp2
        go_ret
        have := R.out
        rw [List.drop_of_length_le (by omega), cmpL] at this
        exact ⟨by rw [← this]; rfl, rfl⟩
theorem closure33 (b1 o1 c1 b2 o2 c2 : Nat) (p1 p2 : Option Addr) (x y : List Int) (f1 f2 m1 m2 : Value) (w : World) (hx : x.length ≤ 1000) (hy : y.length ≤ 1000) (hf1 : f1.oneCell' = true) (hf2 : f2.oneCell' = true) (hm1 : m1.oneCell' = true) (hm2 : m2.oneCell' = true) (I : Aside (IntsAt w p1 b1 o1 x ∧ IntsAt w p2 b2 o2 y ∧ (x.length ≠ 0 → b1 < w.heap.size) ∧ (y.length ≠ 0 → b2 < w.heap.size))) :
    Calls Try.prog 33 #[.agg #[.slice p1 x.length c1, f1, m1], .agg #[.slice p2 y.length c2, f2, m2]] w fun e w' => e = .returned (.int .i64 (cmpKi x y)) ∧ ∃ q os', w' = grow (w.drewN q) os' := by
  have c34 := fun W (hW : Aside (IntsAt W p1 b1 o1 x ∧ IntsAt W p2 b2 o2 y)) => compare34 b1 o1 c1 b2 o2 c2 p1 p2 x y W hx hy hW
  by_cases hd : (x.length : Int) - y.length = 0
  · have hd' : ((x.length : Int) - y.length != 0) = false := by simp [hd]
    have hW : ∀ o1' o2', Aside (IntsAt ((w.alloc o1').alloc o2') p1 b1 o1 x ∧ IntsAt ((w.alloc o1').alloc o2') p2 b2 o2 y) := by
      intro a1 a2
      have key : ∀ b o, b < w.heap.size → ((w.alloc a1).alloc a2).cell? ⟨b, o, none⟩ = w.cell? ⟨b, o, none⟩ := fun b o hb => by
        rw [World.cell?_of_block (w := w.alloc a1) (Below.heap_alloc _ a2 b (by show b < (w.heap.push _).size; rw [Array.size_push]; omega)), World.cell?_of_block (w := w) (Below.heap_alloc w a1 b hb)]
      refine ⟨⟨I.out.1.1, fun j hj => ?_⟩, ⟨I.out.2.1.1, fun j hj => ?_⟩⟩
      · rw [key _ _ (I.out.2.2.1 (by omega))]; exact I.out.1.2 j hj
      · rw [key _ _ (I.out.2.2.2 (by omega))]; exact I.out.2.1.2 j hj
    have c34' := c34 _ (hW (.cells #[.slice p1 x.length c1, f1, m1] 25) (.cells #[.slice p2 y.length c2, f2, m2] 25))
    have R : Aside (cmpKi x y = cmpL x y) := by show cmpKi x y = _; unfold cmpKi; rw [if_neg (by simpa using hd)]
    clear c34 hW
    go_enter Try.func33, Try.ntmps33
    go_wp2_with (go_at_call 34; refine c34'.mono ?_; rintro e w1 ⟨rfl, rfl⟩)
    go_ret
    exact ⟨by rw [R.out]; rfl, 0, _, by rw [alloc_eq_grow, alloc_eq_grow, grow_grow]; rfl⟩
  · have hd' : ((x.length : Int) - y.length != 0) = true := by simp [hd]
    have R : Aside (cmpKi x y = (x.length : Int) - y.length) := by show cmpKi x y = _; unfold cmpKi; rw [if_pos hd]
    clear c34
    go_enter Try.func33, Try.ntmps33
    go_wp2
    go_ret
    exact ⟨by rw [R.out]; rfl, 0, _, by rw [alloc_eq_grow, alloc_eq_grow, grow_grow]; rfl⟩
end Go.Proofs


set_option maxRecDepth 100000
set_option maxHeartbeats 4000000
namespace Go.Abs
open Go.Sort Go.Proofs Go.Shelf Go.Lib Go.RowKit
def oneB (e : TypeId) (k τ : Nat) (rows : List (List C)) : Nat → Option O := fun s => if s = τ then some (.arr e k none rows) else none
def RowAt (w : World) (Z : Bk → Prop) (r : List C) (v : List Value) : Prop := v.length = r.length ∧ ∀ (j : Nat) c u, r[j]? = some c → v[j]? = some u → PRep w Z c u
theorem holds_flat {w : World} {b : Nat} {cur F : Array Value} {e : TypeId} (hb : w.heap[b]? = some (.cells cur e (0, 0))) (hF : F.size ≤ cur.size) (h : ∀ j, j < F.size → cur[j]? = some F[j]!) : Holds id w b 0 F := by
  intro j hj
  refine ⟨?_, by simp [World.frozen?, hb]⟩
  simp only [World.cell?, hb, Nat.zero_add]
  simp only [Option.isSome_none, Bool.false_eq_true, if_false]
  exact h j hj
theorem heap_flat {w : World} {g n : Nat} {os : Array Obj} {cur : Array Value} {e : TypeId} {fr : Nat × Nat} (d : Array Value) (hb : w.heap[g]? = some (.cells cur e fr)) :
    (grow (putRow id (Sort.ahead w n) g 0 d) os).heap[g]? = some (.cells (putCells id 0 d cur) e fr) := by
  have hg : g < w.heap.size := (Array.getElem?_eq_some_iff.1 hb).1
  rw [heap_grow_old _ _ (by simpa using hg)]
  simp [putRow, mapBlock, Sort.ahead, Array.getElem?_modify, hb, onCells]
theorem grownBy_flat {w : World} {g n : Nat} {os : Array Obj} (d : Array Value) : w.grownBy (grow (putRow id (Sort.ahead w n) g 0 d) os) (some g) := by
  refine ⟨rfl, rfl, rfl, by simp, fun k hk hne => ?_⟩
  rw [heap_grow_old _ _ (by simpa using hk)]
  have : g ≠ k := fun e => hne (by rw [e])
  simp [putRow, mapBlock, Sort.ahead, Array.getElem?_modify, this]
theorem vs_two {vs : Array Value} (h : vs.size = 2) : ∃ a b, vs = #[a, b] := by
  obtain ⟨l⟩ := vs
  match l, h with
  | [a, b], _ => exact ⟨a, b, rfl⟩
theorem state2 {τ : Nat} {x y r : V} (o : Nat → Option O) (ob : O) (h : ∀ s, s ≠ τ → o s = none) : (((⟨fun s => [x, y].getD s .any, o⟩ : St).scrub τ).setO τ ob).put 0 r = ⟨fun s => if s = 0 then r else (([x, y].getD s .any).scrub τ), fun s => if s = τ then some ob else none⟩ := by
  simp only [St.put, St.setO, St.scrub, St.mk.injEq]
  refine ⟨trivial, ?_⟩
  funext s
  by_cases hs : s = τ
  · simp [hs]
  · simp [hs, h s hs]
theorem sortF_spec {P : Program} {ρ : Ren} (L : SlLaysF0.n6 P ρ) (hc : Callable P (ρ.f 6)) (e : TypeId) (k : Nat) (k0 : 0 < k) (aE : ∀ w, (isAgg (ρ.t 24)).run P w = .ok true w) (zE : ∀ w, (Go.sizeOf (ρ.t 24)).run P w = .ok k w)
    {β : Type} (encR : β → List C) (hk : ∀ x, (encR x).length = k) (cf : β → β → Int) (lt : β → β → Bool) (hlt : ∀ x y, decide (cf x y < 0) = lt x y) (hO : SWO lt) (g : Nat) (eg : ∀ args w, (callFunc g args).run P w = .ok (.enter g args) w)
    (τ : Nat) (ks : List β) (hm : ks.length < 4611686018427387904)
    (hcl : ∀ x ∈ ks, ∀ y ∈ ks, ∀ (W : World) (Z : Bk → Prop) (vx vy : List Value), (∀ b, Z b → b.2 < W.heap.size) → RowAt W Z (encR x) vx → RowAt W Z (encR y) vy →
      Calls P g #[.agg vx.toArray, .agg vy.toArray] W fun e w' => e = .returned (.int .i64 (cf x y)) ∧ ∃ q os', w' = grow (W.drewN q) os') :
    SpecS P (ρ.f 6) [.k (.own τ), .k (.c (.fn g []))] (oneB e k τ (ks.map encR)) [τ] (fun r o' => r = .tup [] ∧ ∃ out : List β, out.Perm ks ∧ out.Pairwise (fun x y => lt y x = false) ∧ o' = oneB e k τ (out.map encR)) := by
  refine ⟨hc, fun w0 Z0 κ w vs hsz hi => ?_⟩
  obtain ⟨v, fv, rfl⟩ := vs_two hsz
  have ho : (oneB e k τ (ks.map encR)) τ = some (.arr e k none (ks.map encR)) := by simp [oneB]
  have hno : ∀ s, s ≠ τ → oneB e k τ (ks.map encR) s = none := fun s hs => by simp [oneB, hs]
  have hob := hi.objs τ _ ho
  have htm : VRep w (Zof w0 Z0 κ (oneB e k τ (ks.map encR)) w) κ (oneB e k τ (ks.map encR)) (.k (.own τ)) v := by simpa using hi.tmps 0
  have htf : VRep w (Zof w0 Z0 κ (oneB e k τ (ks.map encR)) w) κ (oneB e k τ (ks.map encR)) (.k (.c (.fn g []))) fv := by simpa using hi.tmps 1
  have hfv : fv = .func (.func g) #[] #[] := by
    have := htf.2
    unfold KRep at this
    cases this with
    | fn f caps us val h1 h2 h3 =>
      have : us = #[] := Array.eq_empty_of_size_eq_zero h1
      rw [this]
  subst hfv

  have none_case : ∀ (p : Option Addr) (cap : Nat), ks = [] → v = .slice p 0 cap → Calls P (ρ.f 6) #[v, .func (.func g) #[] #[]] w fun e_1 w' => ∃ v κ' r o', e_1 = .returned v ∧ (r = .tup [] ∧ ∃ out : List β, out.Perm ks ∧ out.Pairwise (fun x y => lt y x = false) ∧ o' = oneB e k τ (out.map encR)) ∧ TabLike (fun τ_1 => τ_1 ∈ [τ]) (oneB e k τ (ks.map encR)) o' κ κ' w w' ∧ Inv w0 Z0 κ' ⟨fun s => if s = 0 then r else .any, o'⟩ #[v] w' := by
    intro p cap hnil hv
    subst hnil hv
    refine (AnyF.slices_SortFunc_none L p cap _ w).mono ?_
    rintro ex w' ⟨rfl, hw⟩
    rw [hw]
    have hI := hi.moveG (τ := τ) (d := 0) (ob := .arr e k none []) (v := .tup []) (u := .tuple #[]) (bo := κ τ) (w' := w) ho (by simp) rfl rfl rfl (Nat.le_refl _) (fun _ _ _ => rfl) (fun b hb => .inr hb)
      (fun Z hZ => ?_) ⟨#[], rfl, rfl, trivial⟩
    · have hI2 := hI.only (T := [τ]) (r := .tup []) (v := .tuple #[]) ⟨#[], rfl, rfl, trivial⟩ rfl (fun t ht ob hob => by
        simp only [List.mem_singleton] at ht
        subst ht
        simp [St.put, St.setO] at hob
        subst hob; rfl)
      have htab : tabIn [τ] ((((⟨fun s => [V.k (.own τ), .k (.c (.fn g []))].getD s .any, oneB e k τ (([] : List β).map encR)⟩ : St).scrub τ).setO τ (.arr e k none [])).put 0 (.tup [])).o = oneB e k τ (([] : List β).map encR) := by
        funext t
        unfold tabIn oneB
        by_cases ht : t = τ
        · subst ht; simp [St.put, St.setO]
        · simp [ht]
      rw [htab] at hI2
      refine ⟨.tuple #[], _, .tup [], _, rfl, ⟨rfl, [], List.Perm.refl _, List.Pairwise.nil, rfl⟩, ?_, hI2⟩
      intro s hs
      simp only [List.mem_singleton] at hs
      subst hs
      refine ⟨by simp [Like, oneB], by simp, fun _ b hb cur e' f hcur => ⟨cur, hcur, rfl⟩⟩
    · have hZ' := hob
      rcases hZ' with ⟨h1, _, _⟩ | ⟨b, cur, cap', h1, h2, h3, h4, h5, h6, _, h8, _⟩
      · exact .inl ⟨by simp [h1], rfl, by simp⟩
      · exact .inr ⟨b, cur, cap', by simp [h1], h2, h3, h4, by simp, h6, by simp, by simp, fun i j r c hr => by simp at hr⟩
  rcases hob with ⟨hκ, hrows, _⟩ | ⟨b, cur, cap, hκ, hheap, h0, hcs, hlen, hcap, _, hall, hrr⟩
  · have hl0 : ks = [] := by simpa using hrows
    have hv : v = .slice none 0 0 := by
      rcases htm.2 e k none _ ho with ⟨_, hv⟩ | ⟨b, _, _, hb, _⟩
      · exact hv
      · rw [hκ] at hb; cases hb
    exact none_case none 0 hl0 hv
  · obtain ⟨cap', hv, hcap'⟩ : ∃ cap', v = .slice (some ⟨b, 0, none⟩) ks.length cap' ∧ cur.size = cap' * k := by
      rcases htm.2 e k none _ ho with ⟨hn, _⟩ | ⟨b', cur', cap', hb, hh, hc2, hv⟩
      · rw [hκ] at hn; cases hn
      · rw [hκ] at hb; cases hb
        rw [hheap] at hh; cases hh
        exact ⟨cap', by simpa using hv, hc2⟩
    by_cases hks : ks = []
    · exact none_case _ cap' hks (by rw [hv, hks]; rfl)
    have hpos : 0 < ks.length := List.length_pos_iff.2 hks
    subst hv
    have hlt' : b < w.heap.size := heap_lt hheap
    rw [List.length_map] at hlen
    have hcsz : ks.length * k ≤ cur.size := by rw [hcs]; exact Nat.mul_le_mul_right k hlen
    haveI : Inhabited (Fin ks.length) := ⟨⟨0, hpos⟩⟩
    let enc : Fin ks.length → List Value := fun i => (List.range k).map fun j => cur.getD (i.1 * k + j) (.bool true)
    have enck : ∀ x, (enc x).length = k := fun x => by simp [enc]
    have hcell : ∀ (i : Fin ks.length) (j : Nat) c, (encR ks[i.1])[j]? = some c → ∃ u, cur[i.1 * k + j]? = some u ∧ (enc i)[j]? = some u ∧ PRep w (Zof w0 Z0 κ (oneB e k τ (ks.map encR)) w) c u := by
      intro i j c hcj
      have hj : j < k := by rw [← hk ks[i.1]]; exact (List.getElem?_eq_some_iff.1 hcj).1
      obtain ⟨u, hu, hp⟩ := hrr i.1 j (encR ks[i.1]) c (by rw [List.getElem?_map, List.getElem?_eq_getElem i.2]; rfl) hcj
      refine ⟨u, hu, ?_, hp⟩
      simp only [enc, List.getElem?_map, List.getElem?_range hj, Option.map_some]
      rw [Array.getD_eq_getD_getElem?, hu]; rfl
    have henc1 : ∀ x, ∀ u ∈ enc x, u.oneCell' = true := by
      intro x u hu
      obtain ⟨j, hj, rfl⟩ := List.getElem_of_mem hu
      have hj' : j < k := by rwa [enck] at hj
      obtain ⟨u2, _, h2, h3⟩ := hcell x j _ (List.getElem?_eq_getElem (by rw [hk]; exact hj'))
      rw [List.getElem?_eq_getElem hj] at h2
      cases h2
      exact h3.oneCell
    let d : Array (Fin ks.length) := Array.ofFn fun i => i
    have hds : d.size = ks.length := by simp [d]
    have hdi : ∀ i (h : i < ks.length), d[i]! = ⟨i, h⟩ := fun i h => by simp [d, h]
    have hflat : ∀ (d' : Array (Fin ks.length)), d'.size = ks.length → ∀ t, t < ks.length * k → (flatK enc k d')[t]! = cur.getD (d'[t / k]!.1 * k + t % k) (.bool true) := by
      intro d' hd' t ht
      rw [get_flatK _ _ _ _ (by rw [hd']; exact ht)]
      have hm2 : t % k < k := Nat.mod_lt _ k0
      simp only [enc]
      rw [getElem!_pos _ _ (by simpa using hm2)]
      simp
    have hH : HoldsK enc k w b 0 d := by
      refine holds_flat hheap (by simp [hds]; exact hcsz) fun t ht => ?_
      rw [size_flatK, hds] at ht
      rw [hflat d hds t ht]
      have hq : t / k < ks.length := (Nat.div_lt_iff_lt_mul k0).2 ht
      rw [hdi _ hq]
      have e1 : t / k * k + t % k = t := Nat.div_add_mod' t k
      show cur[t]? = some (cur.getD (t / k * k + t % k) _)
      rw [e1, Array.getD_eq_getD_getElem?, Array.getElem?_eq_getElem (by omega)]; rfl
    let cfF : Fin ks.length → Fin ks.length → Int := fun i j => cf ks[i.1] ks[j.1]
    have hltF : ∀ x y, ltOf cfF x y = lt ks[x.1] ks[y.1] := fun x y => by unfold ltOf; exact hlt _ _
    have hOF : SWO (ltOf cfF) := ⟨fun x => by rw [hltF]; exact hO.irrefl _, fun x y z h1 h2 => by rw [hltF] at *; exact hO.trans _ _ _ h1 h2, fun x y z h1 h2 => by rw [hltF] at *; exact hO.ntrans _ _ _ h1 h2⟩
    have hcmp : CmpLays P g #[] enc k cfF b 0 d.size w := by
      intro m os dk hdk x y
      have hsame : Same (Zof w0 Z0 κ (oneB e k τ (ks.map encR)) w) w (sortWorldK enc k w b 0 m dk os) := by
        intro bk hbk
        have hne : bk.2 ≠ b := fun e2 => hbk.2.2 τ (by rw [ho]; simp) (by rw [hκ, e2])
        exact (grownBy_flat (flatK enc k dk)).block bk.2 hbk.2.1 (fun e2 => hne (by cases e2; rfl))
      have hrow : ∀ i : Fin ks.length, RowAt (sortWorldK enc k w b 0 m dk os) (Zof w0 Z0 κ (oneB e k τ (ks.map encR)) w) (encR ks[i.1]) (enc i) := by
        intro i
        refine ⟨by rw [enck, hk], fun j c u hcj hu => ?_⟩
        obtain ⟨u2, _, h2, h3⟩ := hcell i j c hcj
        rw [h2] at hu; cases hu
        exact h3.mono hsame fun _ h => h
      have hsz2 : w.heap.size ≤ (sortWorldK enc k w b 0 m dk os).heap.size := (grownBy_flat (flatK enc k dk)).size
      have := hcl ks[x.1] (List.getElem_mem _) ks[y.1] (List.getElem_mem _) (sortWorldK enc k w b 0 m dk os) (Zof w0 Z0 κ (oneB e k τ (ks.map encR)) w) (enc x) (enc y) (fun bk hbk => Nat.lt_of_lt_of_le hbk.2.1 hsz2) (hrow x) (hrow y)
      rw [show (#[.agg (enc x).toArray, .agg (enc y).toArray] ++ #[] : Array Value) = #[.agg (enc x).toArray, .agg (enc y).toArray] from rfl]
      exact this
    have hcon := AnyQ.slices_SortFunc L k aE zE enc enck henc1 cfF hOF g #[] b 0 cap' d w eg hcmp hH hlt' (by rw [hds]; exact hm)
    rw [hds] at hcon
    refine hcon.mono ?_
    rintro ex w' ⟨rfl, d', n, os, ⟨p1, p2, p3⟩, hs, rfl⟩
    rw [hds] at p1
    have hfull : ∀ a : Array (Fin ks.length), a.size = ks.length → a.extract 0 ks.length = a := fun a ha => by
      apply Array.ext
      · simp [ha]
      · intro i h1 h2; simp
    rw [hfull d' p1, hfull d hds] at p3
    let out : List β := d'.toList.map fun i => ks[i.1]
    have hol : out.length = ks.length := by simp [out, p1]
    have hperm : out.Perm ks := by
      have h1 : (d.toList.map fun i : Fin ks.length => ks[i.1]) = ks := by
        apply List.ext_getElem
        · simp [d]
        · intro i h1 h2; simp [d]
      have h2 : (d'.toList.map fun i : Fin ks.length => ks[i.1]).Perm (d.toList.map fun i : Fin ks.length => ks[i.1]) := p3.map _
      rw [h1] at h2; exact h2
    have hpw : out.Pairwise fun x y => lt y x = false := by
      rw [List.pairwise_iff_getElem]
      intro i j h1 h2 hij
      have hi1 : i < d'.size := by rw [p1, ← hol]; exact h1
      have hj1 : j < d'.size := by rw [p1, ← hol]; exact h2
      have := hs i j (Nat.zero_le _) hij (by rw [← p1]; exact hj1)
      rw [hltF, getElem!_pos d' i hi1, getElem!_pos d' j hj1] at this
      simpa [out] using this
    have hh2 := heap_flat (w := w) (n := n) (os := os) (flatK enc k d') hheap
    obtain ⟨g1, g2, g3, g4, g5⟩ := grownBy_flat (w := w) (g := b) (n := n) (os := os) (flatK enc k d')
    have hsz2 : (putCells id 0 (flatK enc k d') cur).size = cur.size := by simp [putCells]
    have hzsame : Same (Zof w0 Z0 κ (oneB e k τ (ks.map encR)) w) w (sortWorldK enc k w b 0 n d' os) := by
      intro bk hbk
      have hne : bk.2 ≠ b := fun e2 => hbk.2.2 τ (by rw [ho]; simp) (by rw [hκ, e2])
      exact g5 bk.2 hbk.2.1 (fun e2 => hne (by cases e2; rfl))
    have hI := hi.moveG (τ := τ) (d := 0) (ob := .arr e k none (out.map encR)) (v := .tup []) (u := .tuple #[]) (bo := some b) (w' := sortWorldK enc k w b 0 n d' os) ho (by simp) g1 g2 g3 g4
      (fun q hq hne => g5 q hq (by rw [hκ] at hne; exact fun h => hne (by cases h; rfl))) (fun b' hb => .inr (by cases hb; exact hκ))
      (fun Z hZ => .inr ⟨b, _, cap, by simp, hh2, h0, by rw [hsz2]; exact hcs, by rw [List.length_map, hol]; exact hlen, hcap, by simp, fun r hr => by obtain ⟨x, _, rfl⟩ := List.mem_map.1 hr; exact hk x, fun i j r c hr hcj => ?_⟩) ⟨#[], rfl, rfl, trivial⟩
    · rw [state2 _ _ hno] at hI
      have hI2 := hI.only (T := [τ]) (r := .tup []) (v := .tuple #[]) ⟨#[], rfl, rfl, trivial⟩ rfl (fun t ht ob hob => by
        simp only [List.mem_singleton] at ht
        subst ht
        simp at hob
        subst hob; rfl)
      have htab : tabIn [τ] (fun s => if s = τ then some (O.arr e k none (out.map encR)) else none) = oneB e k τ (out.map encR) := by
        funext t
        unfold tabIn oneB
        by_cases ht : t = τ
        · subst ht; simp
        · simp [ht]
      rw [htab] at hI2
      refine ⟨.tuple #[], _, .tup [], _, rfl, ⟨rfl, out, hperm, hpw, rfl⟩, ?_, hI2⟩
      intro s hs
      simp only [List.mem_singleton] at hs
      subst hs
      refine ⟨by simp [oneB, Like, hol], by simp [hκ], fun _ b' hb cur0 e0 f0 hc0 => ?_⟩
      rw [hκ] at hb; cases hb
      rw [hheap] at hc0; cases hc0
      exact ⟨_, hh2, hsz2⟩
    ·
      have hi' : i < ks.length := by have := (List.getElem?_eq_some_iff.1 hr).1; rwa [List.length_map, hol] at this
      have hid : i < d'.size := by rw [p1]; exact hi'
      have hout : out[i]'(by rw [hol]; exact hi') = ks[(d'[i]).1] := by simp [out]
      have hr' : r = encR ks[(d'[i]).1] := by
        rw [List.getElem?_map, List.getElem?_eq_getElem (by rw [hol]; exact hi')] at hr
        have := Option.some.inj hr
        rw [← this, hout]
      subst hr'
      have hj : j < k := by rw [← hk ks[(d'[i]).1]]; exact (List.getElem?_eq_some_iff.1 hcj).1
      obtain ⟨u, hu, _, hp⟩ := hcell d'[i] j c hcj
      have hlt2 : i * k + j < ks.length * k := by
        have := Nat.mul_le_mul_right k (show i + 1 ≤ ks.length from hi')
        rw [Nat.add_mul, Nat.one_mul] at this; omega
      have e1 : (i * k + j) / k = i := (blk_iff k i _ k0).1 ⟨by omega, by omega⟩
      have e2 : (i * k + j) % k = j := by rw [Nat.mod_eq_sub_div_mul, e1]; omega
      refine ⟨u, ?_, hp.mono hzsame hZ⟩
      have hf := hflat d' p1 (i * k + j) hlt2
      rw [e1, e2, getElem!_pos d' i hid, Array.getD_eq_getD_getElem?, hu] at hf
      have hfs : i * k + j < (flatK enc k d').size := by rw [size_flatK, p1]; exact hlt2
      have hcs2 : i * k + j < cur.size := by omega
      simp only [putCells]
      rw [Array.getElem?_mapIdx, Array.getElem?_eq_getElem hcs2]
      simp only [Option.map_some, Nat.zero_le, true_and, Nat.zero_add, hfs, if_true, Nat.sub_zero, id]
      rw [hf]; rfl
end Go.Abs


set_option maxRecDepth 100000
set_option maxHeartbeats 4000000
namespace Go.Abs
open Go.Sort Go.Proofs Go.Shelf Go.Lib Go.RowKit
def encKi (x : Ki) : List C := [lstC 1 (ints x.dr), lstC 1 (ints x.fi), .int .i64 x.mo]
def kis (l : List Ki) : List (List C) := l.map encKi
theorem kis_len (l : List Ki) : (kis l).length = l.length := by simp [kis]
theorem kis_at {l : List Ki} {i : Nat} (h : i < l.length) : (kis l).getD i [] = encKi l[i] := by simp [kis, h]
theorem normRow_encKi (x : Ki) : C.normRow (encKi x) = encKi x := by simp only [encKi, C.normRow, norm_lst, normRows_ints, norm_int]
theorem normRows_kis (l : List Ki) : C.normRows (kis l) = kis l := normRows_eq normRow_encKi l
def encKf (x : Ki) : List C := [.list 1 (some false) (ints x.dr), .list 1 (some false) (ints x.fi), .int .i64 x.mo]
def kisF (l : List Ki) : List (List C) := l.map encKf
theorem kisF_len (l : List Ki) : (kisF l).length = l.length := by simp [kisF]
theorem kisF_snoc (l : List Ki) (x : Ki) : kisF l ++ [encKf x] = kisF (l ++ [x]) := by simp [kisF]
theorem normRows_kisF (l : List Ki) : C.normRows (kisF l) = kis l := by
  induction l with
  | nil => rfl
  | cons a l ih =>
    have h1 : kisF (a :: l) = encKf a :: kisF l := rfl
    have h2 : kis (a :: l) = encKi a :: kis l := rfl
    rw [h1, h2, normRows_cons, ih]
    simp only [encKf, encKi, C.normRow, norm_list, normRows_ints, norm_int]
theorem swo_ltK : SWO (fun x y : Ki => ltK x y) := ⟨ltK_irr, fun _ _ _ => ltK_trans, fun _ _ _ => ltK_swo⟩
theorem d32 (τ : Nat) (ks : List Ki) (hm : ks.length ≤ 1000) (hk : ∀ x ∈ ks, x.dr.length ≤ 1000) : SpecS Try.prog 32 [.k (.own τ), .k (.c (.fn 33 []))] (oneB 25 3 τ (kis ks)) [τ] (fun r o' => r = .tup [] ∧ ∃ out : List Ki, out.Perm ks ∧ out.Pairwise (fun x y => ltK y x = false) ∧ o' = oneB 25 3 τ (kis out)) := by
  refine sortF_spec Try.laysSortF (callable_at (by kernel_rfl)) 25 3 (by decide) Try.isAgg25 Try.sizeOf25 encKi (fun _ => rfl) (fun x y => cmpKi x.dr y.dr) ltK cmpKi_lt swo_ltK 33 (enters_of Try.func33 (by kernel_rfl) rfl) τ ks (by omega) ?_
  intro x hx y hy W Z vx vy hZ hvx hvy
  obtain ⟨hlx, hcx⟩ := hvx
  obtain ⟨hly, hcy⟩ := hvy
  match vx, hlx, hcx with
  | [s1, f1, m1], _, hcx =>
    match vy, hly, hcy with
    | [s2, f2, m2], _, hcy =>
      have a1 := hcx 0 _ _ rfl rfl
      have a2 := hcx 1 _ _ rfl rfl
      have a3 := hcx 2 _ _ rfl rfl
      have b1 := hcy 0 _ _ rfl rfl
      have b2 := hcy 1 _ _ rfl rfl
      have b3 := hcy 2 _ _ rfl rfl
      obtain ⟨q1, rfl, q2⟩ := ints_slice a1
      obtain ⟨r1, rfl, r2⟩ := ints_slice b1
      refine closure33 q1.2.2.1 q1.2.2.2 q1.2.1 r1.2.2.1 r1.2.2.2 r1.2.1 q1.1 r1.1 x.dr y.dr f1 f2 m1 m2 W (hk x hx) (hk y hy) a2.oneCell b2.oneCell a3.oneCell b3.oneCell ⟨⟨fun h => (q2 h).1, fun j hj => ?_⟩, ⟨fun h => (r2 h).1, fun j hj => ?_⟩, fun h => hZ _ (q2 h).2.1, fun h => hZ _ (r2 h).2.1⟩
      · exact (q2 (by omega)).2.2 j hj
      · exact (r2 (by omega)).2.2 j hj
def rawT (l : List Dr) (n : Nat) : List Ki := ((rangeI 0 n).filter (wholeG l)).map fun x => kiOf l (closG l x)
theorem rangeI_snoc (lo : Int) (m : Nat) : rangeI lo (m + 1) = rangeI lo m ++ [lo + m] := by unfold rangeI; rw [List.range_succ, List.map_append]; rfl
theorem rawT_next (l : List Dr) (n : Nat) : rawT l (n + 1) = if wholeG l (n : Int) = true then rawT l n ++ [kiOf l (closG l n)] else rawT l n := by
  unfold rawT
  rw [rangeI_snoc, List.filter_append, List.map_append, Int.zero_add]
  by_cases h : wholeG l (n : Int) = true
  · simp [h]
  · simp [h]
def firstsA (l : List Dr) (n : Nat) : List Int := (List.range l.length).map fun (j : Nat) => if j < n then firstG l j else 0
theorem firstsA_len (l : List Dr) (n : Nat) : (firstsA l n).length = l.length := by simp [firstsA]
theorem firstsA_zero (l : List Dr) : firstsA l 0 = List.replicate l.length 0 := by
  apply List.ext_getElem
  · simp [firstsA]
  · intro j h1 h2; simp [firstsA]
theorem firstsA_next {l : List Dr} {n : Nat} (h : n < l.length) : (firstsA l n).set n (firstG l n) = firstsA l (n + 1) := by
  apply List.ext_getElem
  · simp [firstsA]
  · intro j h1 h2
    rw [List.getElem_set]
    simp only [firstsA, List.getElem_map, List.getElem_range]
    by_cases e : n = j
    · subst e; rw [if_pos rfl, if_pos (by omega)]
    · rw [if_neg e]
      by_cases g : j < n
      · rw [if_pos g, if_pos (by omega)]
      · rw [if_neg g, if_neg (by omega)]
theorem firstsA_at {l : List Dr} {n : Nat} {y : Int} (h0 : 0 ≤ y) (h : y < n) (hn : n ≤ l.length) : (firstsA l n).getD y.toNat 0 = firstG l y := by
  have h1 : y.toNat < l.length := by omega
  simp only [firstsA, List.getD_eq_getElem?_getD, List.getElem?_map, List.getElem?_range h1, Option.map_some, Option.getD_some]
  rw [if_pos (by omega), show ((y.toNat : Nat) : Int) = y by omega]
theorem call_sortF {P : Program} {f d τ g e k : Nat} {xs : List AX} {K : KK} {ts : TS} {os : OS} {nl : Option Bool} {X : Prop} {β : Type} {encR : β → List C} {Q : List β → Prop} (rows0 : List (List C)) (ks : List β)
    (hs : SpecS P f [.k (.own τ), .k (.c (.fn g []))] (oneB e k τ (ks.map encR)) [τ] (fun r o' => r = .tup [] ∧ ∃ out, Q out ∧ o' = oneB e k τ (out.map encR))) (ho : lookO τ os = some (.arr e k nl rows0)) (hn : C.normRows rows0 = ks.map encR)
    (hk : ∀ out, Q out → K (insT d (.tup []) ts) (insO τ (.arr e k none (out.map encR)) os)) : X ∨ callSF P f [.k (.own τ), .k (.c (.fn g []))] xs K (some d) ts os := by
  refine .inr (.inl ?_)
  refine ⟨[τ], [τ], [], fun r o' => r = .tup [] ∧ ∃ out, Q out ∧ o' = oneB e k τ (out.map encR), by simp [V.within, Abs.K.within], rfl, ?_, fun s hs => .inl hs, ?_, ?_⟩
  · intro s hs ob hob
    simp only [List.mem_singleton] at hs
    subst hs
    rw [ho] at hob; cases hob; rfl
  · have e1 : (tabIn [τ] fun s => (lookO s os).map O.nrm) = oneB e k τ (ks.map encR) := by
      funext s
      by_cases h : s = τ
      · subst h
        simp [tabIn, ho, oneB, O.nrm, hn]
      · simp [tabIn, oneB, h]
    rw [e1]; exact hs
  · rintro r o' ⟨rfl, out, hQ, rfl⟩
    refine ⟨fun s hs => by simp at hs; simp [oneB, hs], rfl, fun s ob h => ?_, ?_⟩
    · unfold oneB at h
      split at h
      · cases h; rfl
      · cases h
    · have e2 : (mkS ts os).back [τ] [] (oneB e k τ (out.map encR)) = mkS ts (insO τ (.arr e k none (out.map encR)) os) := by
        simp only [St.back, mkS, St.mk.injEq]
        refine ⟨by funext s; rfl, ?_⟩
        funext s
        rw [lookO_ins]
        by_cases h : s = τ
        · subst h; simp [oneB]
        · simp only [List.contains_cons, List.contains_nil, Bool.or_false, beq_iff_eq, h, if_false]
          cases lookO s os <;> rfl
      show onS K (((mkS ts os).back [τ] [] (oneB e k τ (out.map encR))).put d (.tup []))
      rw [e2, mkS_put]; exact onS_mk (hk out hQ)
theorem closG_len {l : List Dr} (hc : CovOk l) {x : Int} (h0 : 0 ≤ x) (hx : x < l.length) : (closG l x).length ≤ l.length := by
  rcases closG_spec hc h0 hx with ⟨h1, _⟩ | ⟨i, h1, h2, _⟩
  · rw [h1]; simp
  · rw [h1, chn_len]
    have h3 := h2.2.1.dec hc i (Nat.le_refl i)
    have h4 := h2.2.1.2 i (Nat.le_refl i)
    omega
theorem closG_mem {l : List Dr} (hc : CovOk l) {x y : Int} (h0 : 0 ≤ x) (hx : x < l.length) (hy : y ∈ closG l x) : 0 ≤ y ∧ y < l.length ∧ y ≤ x := by
  rcases closG_spec hc h0 hx with ⟨h1, _⟩ | ⟨i, h1, h2, _⟩
  · rw [h1] at hy; cases hy
  · rw [h1] at hy
    obtain ⟨j, hj, rfl⟩ := chn_mem.1 hy
    have h3 := h2.2.1.dec hc j hj
    have h4 := h2.2.1.rng hc hj
    omega
def whT (l : List Dr) (c : List Int) (i : Nat) : Bool := (c.dropLast.take i).all fun y => decide (firstG l y < c.headD (-1))
def fiT (l : List Dr) (c : List Int) (i : Nat) : List Int := (c.take i).map fun y => (dat l y).d
def moT (l : List Dr) (c : List Int) (i : Nat) : Int := sumI ((c.dropLast.take i).map (ownAt l))
theorem dl_take {c : List Int} {i : Nat} (h : i + 1 < c.length) : c.dropLast.take (i + 1) = c.dropLast.take i ++ [c[i]] := by
  have h1 : i < c.dropLast.length := by rw [List.length_dropLast]; omega
  rw [List.take_succ_eq_append_getElem h1, List.getElem_dropLast]
theorem dl_last {c : List Int} {i : Nat} (h : i + 1 = c.length) : c.dropLast.take (i + 1) = c.dropLast.take i := by
  rw [List.take_of_length_le (by rw [List.length_dropLast]; omega), List.take_of_length_le (by rw [List.length_dropLast]; omega)]
theorem fiT_next {l : List Dr} {c : List Int} {i : Nat} (h : i < c.length) : fiT l c (i + 1) = fiT l c i ++ [(dat l c[i]).d] := by
  unfold fiT; rw [List.take_succ_eq_append_getElem h, List.map_append]; rfl
def obK (l : List Dr) (c : List Int) (nl : Option Bool) (raw : List Ki) (fs : List Int) : Nat → OS
  | 0 => [(5, .arr 25 3 nl (kisF raw)), (8, .var 25 [.c (.list 1 (some false) (ints c)), .c (.list 0 (some true) []), .c (.int .i64 (moT l c 0))]), (19, .arr 3 1 (some false) (ints fs))]
  | i + 1 => [(5, .arr 25 3 nl (kisF raw)), (8, .var 25 [.c (.list 1 (some false) (ints c)), .own 74, .c (.int .i64 (moT l c (i + 1)))]), (19, .arr 3 1 (some false) (ints fs)), (74, .arr 3 1 (some false) (ints (fiT l c (i + 1))))]
theorem d15 (l : List Dr) : Spec Try.prog 15 [lst 6 (drs l)] (fun r => r = lst 3 (kis (if chkG l = 0 then kitesR l else []))) := by
  refine Spec.of_awlP hf15 okf15 (by simp) fun S hS => ?_
  simp only [normRows_drs, Qs, Nat.reduceBEq, uu f15.eq_1, vv f15r68.eq_1, uu f15b69.eq_1, uu f15b70.eq_1, vv f15r71.eq_1, uu f15b72.eq_1]
  refine call_s (d10 l) ?_ (ha := by simp [lendL, lendO, lookO, V.norm, norm_list, lst, normRows_drs])
  by_cases h : chkG l = 0
  case neg =>
    have hb : (chkG l != 0) = true := by simpa using h
    rw [if_neg h] at hS
    simp only [hb, Qs, if_true, BEq.rfl, List.nodup_nil, List.nodup_cons, Nat.reduceBEq, List.not_mem_nil, vv f15r65.eq_1, uu f15b66.eq_1, uu f15b67.eq_1]
    exact hS _ rfl
  have hb : (chkG l != 0) = false := by simpa using h
  rw [if_pos h] at hS
  have hR := right_of h
  have hl := hR.len
  simp only [hb, drs_len, normRows_drs, Qs, if_true, Nat.reduceBEq, vv f15r63.eq_1, uu f15b64.eq_1, uu f15b67.eq_1]
  refine call_r (d29 l hR) ?_ (ha := by simp [lendL, lendO, lookO, V.norm, norm_list, lst, normRows_drs])
  simp only [drs_len, normRows_drs, Qs, bne_iff_ne, ne_eq, Nat.reduceEqDiff, Nat.reduceBEq, uu f15b55.eq_1, vv f15r56.eq_1, uu f15b57.eq_1, uu f15b58.eq_1, vv f15r59.eq_1, uu f15b60.eq_1, vv f15r61.eq_1, uu f15b62.eq_1]
  refine ⟨Int.le_refl _, by omega, by omega, ?_⟩
  rw [uu f15l54.eq_1]
  refine awl_loop (fun x : Nat × Option Bool => [(0, lst 6 (drs l)), (3, lst 1 (ints (ownL l))), (4, .k (.own 19)), (5, .k (.own 5)), (21, .int .i64 l.length), (22, .int .i64 x.1)]) (fun x => [(5, .arr 25 3 x.2 (kisF (rawT l x.1))), (19, .arr 3 1 (some false) (ints (firstsA l x.1)))])
    (fun x => x.1 ≤ l.length ∧ (rawT l x.1).length ≤ x.1) (fun x => l.length - x.1) (0, some true) rfl (by rw [firstsA_zero]; simp only [← ints_repl0]; rfl) ⟨Nat.zero_le _, by simp [rawT, rangeI]⟩ ?_
  rintro ⟨n, nl⟩ ⟨hn, hraw⟩
  simp only [] at hn hraw
  by_cases hlt : n < l.length
  · have c1 : (n : Int) < l.length := by omega
    have c4 : IntKind.i64.wrap ((n : Int) + 1) = (n : Int) + 1 := wrap_in (by omega) (by omega)
    have i0 : (0 : Int) ≤ (n : Int) := by omega
    have g31 := d31 l hR n i0 c1
    have lf := firstsA_len l n
    have hfn := firstsA_next hlt
    simp only [c1, c4, i0, lf, drs_len, ints_len, normRows_drs, Int.toNat_natCast, ints_set, Qs, if_true, Nat.reduceBEq, vv f15r5.eq_1, vv f15r44.eq_1, uu f15b45.eq_1, vv f15r46.eq_1, uu f15b47.eq_1, uu f15b48.eq_1, uu f15b49.eq_1, uu f15b50.eq_1, uu f15b51.eq_1, vv f15r52.eq_1, uu f15b53.eq_1]
    refine call_l g31 ?_ (ha := by simp [lendL, lendO, lookO, V.norm, norm_list, lst, normRows_drs])
    by_cases hc : closG l n = []
    · have hf1 : firstG l n = -1 := by unfold firstG; rw [hc]; rfl
      have hw1 : wholeG l n = false := by unfold wholeG; rw [hc]; rfl
      have hr1 := rawT_next l n
      rw [hw1, if_neg (by simp)] at hr1
      rw [hf1] at hfn
      rw [hc]
      simp only [c1, c4, i0, lf, ints_len, ints_set, Int.toNat_natCast, decide_true, Qs, q_vNil_eq_1, if_true, if_false, Int.reduceNeg, Nat.reduceEqDiff, Nat.reduceBEq, uu f15b38.eq_1, vv f15r39.eq_1, uu f15b40.eq_1, uu f15b41.eq_1, vv f15r42.eq_1, uu f15b43.eq_1]
      exact Next.intro (n + 1, nl) rfl (by simp only [hr1, ← hfn]; rfl) ⟨hlt, by show (rawT l (n + 1)).length ≤ n + 1; rw [hr1]; omega⟩ (by show l.length - (n + 1) < l.length - n; omega)
    · have hwd : wholeG l n = whT l (closG l n) (closG l n).length := by
        unfold wholeG whT
        rw [decide_eq_true hc, Bool.true_and, List.take_of_length_le (by rw [List.length_dropLast]; omega)]
      have hf1 : firstG l n = (closG l n).headD (-1) := rfl
      have hki : kiOf l (closG l n) = ⟨closG l n, fiT l (closG l n) (closG l n).length, moT l (closG l n) (closG l n).length⟩ := by
        unfold kiOf fiT moT
        rw [List.take_length, List.take_of_length_le (by rw [List.length_dropLast]; omega)]
      have hmem := fun y hy => closG_mem hR.cov i0 c1 (y := y) hy
      have hcl := closG_len hR.cov i0 c1
      have hr1 := rawT_next l n
      rw [hwd, hki] at hr1
      have hcd : decide (closG l n = []) = false := decide_eq_false hc
      rw [hcd]
      rw [hf1] at hfn
      generalize hcc : closG l n = c at hc hwd hmem hcl hr1 hfn
      clear hwd hf1 hki hcd g31
      obtain ⟨p, hp⟩ : ∃ p, c.length = p + 1 := ⟨c.length - 1, by have := List.length_pos_iff.2 hc; omega⟩
      have hd0 : (ints c).getD 0 [] = [.int .i64 (c.headD (-1))] := by
        cases c with
        | nil => exact absurd rfl hc
        | cons a r => rfl
      have z0 : (0 : Int) < ((p + 1 : Nat) : Int) := by omega
      have lf1 : ((firstsA l n).set n (-1)).length = l.length := by rw [List.length_set, lf]
      have hss : ((firstsA l n).set n (-1)).set n (c.headD (-1)) = firstsA l (n + 1) := by rw [List.set_set]; exact hfn
      have nn : (0 : Int).toNat = 0 := rfl
      simp only [c1, c4, i0, lf, lf1, hd0, hp, z0, nn, hss, ints_len, ints_set, Int.toNat_natCast, Qs, q_vNil_eq_1, if_true, if_false, bne_iff_ne, ne_eq, Int.reduceNeg, List.append_nil, Nat.reduceAdd, Nat.reduceEqDiff, Nat.reduceLeDiff, Nat.reduceBEq, Int.reduceLE, uu f15b28.eq_1, vv f15r29.eq_1, uu f15b30.eq_1, uu f15b31.eq_1, vv f15r32.eq_1, uu f15b33.eq_1, vv f15r34.eq_1, uu f15b35.eq_1, vv f15r36.eq_1, uu f15b37.eq_1, uu f15b38.eq_1, vv f15r39.eq_1, uu f15b40.eq_1, uu f15b41.eq_1, vv f15r42.eq_1, uu f15b43.eq_1]
      rw [uu f15l27.eq_1]
      have hmo : ∀ i, 0 ≤ moT l c i ∧ moT l c i ≤ 109951162777600 := by
        intro i
        have h1 := sumI_bound (B := 1099511627776) (l := (c.dropLast.take i).map (ownAt l)) fun z hz => by
          obtain ⟨y, hy, rfl⟩ := List.mem_map.1 hz
          obtain ⟨y0, y1, _⟩ := hmem y (List.dropLast_subset _ (List.mem_of_mem_take hy))
          have h2 := own_facts hR.sum y0 y1
          have h3 := hR.sum _ (dat_mem y0 y1)
          omega
        have h4 : ((c.dropLast.take i).map (ownAt l)).length ≤ 100 := by rw [List.length_map, List.length_take, List.length_dropLast]; omega
        have h5 : (((c.dropLast.take i).map (ownAt l)).length : Int) * 1099511627776 ≤ 100 * 1099511627776 := Int.mul_le_mul_of_nonneg_right (by omega) (by omega)
        have h6 : moT l c i = sumI ((c.dropLast.take i).map (ownAt l)) := rfl
        omega
      refine awl_loop (fun i : Nat => [(0, lst 6 (drs l)), (3, lst 1 (ints (ownL l))), (4, .k (.own 19)), (5, .k (.own 5)), (7, .list 1 (some false) (ints c)), (8, .k (.ptr 8 0)), (9, .bool (whT l c i)), (21, .int .i64 l.length), (22, .int .i64 n), (41, .list 1 (some false) (ints c)), (42, .int .i64 (p + 1 : Nat)), (43, .int .i64 i)])
        (obK l c nl (rawT l n) (firstsA l (n + 1))) (fun i => i ≤ p + 1) (fun i => p + 1 - i) 0 rfl rfl (Nat.zero_le _) ?_
      intro i hi
      by_cases hit : i < p + 1
      · have c5 : (i : Int) < ((p + 1 : Nat) : Int) := by omega
        have c6 : IntKind.i64.wrap ((i : Int) + 1) = (i : Int) + 1 := wrap_in (by omega) (by omega)
        have c7 : IntKind.i64.wrap (((p + 1 : Nat) : Int) - 1) = (p : Int) := by rw [wrap_in (by omega) (by omega)]; omega
        have hic : i < c.length := by omega
        obtain ⟨y, hy⟩ : ∃ y, c[i] = y := ⟨_, rfl⟩
        have hcy : (ints c).getD i [] = [.int .i64 y] := by rw [ints_at hic, hy]
        obtain ⟨y0, y1, y2⟩ := hmem y (by rw [← hy]; exact List.getElem_mem hic)
        have hay := drs_dat y0 y1
        have hoy : (ints (ownL l)).getD y.toNat [] = [.int .i64 (ownAt l y)] := by rw [ints_getD (by rw [ownL_len]; omega), ownL_at (by omega), show ((y.toNat : Nat) : Int) = y by omega]
        have hfy : (ints (firstsA l (n + 1))).getD y.toNat [] = [.int .i64 (firstG l y)] := by rw [ints_getD (by rw [firstsA_len]; omega), firstsA_at y0 (by push_cast; omega) (by omega)]
        have lf2 := firstsA_len l (n + 1)
        have lo2 := ownL_len l
        have hfi := fiT_next (l := l) hic
        rw [hy] at hfi
        have hfl : (fiT l c i).length ≤ 100 := by unfold fiT; rw [List.length_map, List.length_take]; omega
        have q1 : (fiT l c i).length + 1 ≤ 9223372036854775807 := by omega
        have q2 : ((fiT l c i).length + 1) * 8 ≤ 140737488355328 := by omega
        have hm1 := hmo i
        have hm2 := hmo (i + 1)
        have hMeas : p + 1 - (i + 1) < p + 1 - i := by omega

        have key : (i = p ∧ whT l c (i + 1) = whT l c i ∧ moT l c (i + 1) = moT l c i) ∨ (i < p ∧ whT l c (i + 1) = (whT l c i && decide (firstG l y < c.headD (-1))) ∧ moT l c (i + 1) = moT l c i + ownAt l y) := by
          by_cases e : i = p
          · refine .inl ⟨e, ?_, ?_⟩
            · unfold whT; rw [dl_last (by omega)]
            · unfold moT; rw [dl_last (by omega)]
          · refine .inr ⟨by omega, ?_, ?_⟩
            · unfold whT; rw [dl_take (by omega), List.all_append, hy]; simp
            · unfold moT; rw [dl_take (by omega), List.map_append, hy]; exact sumI_snoc _ _
        have hob : (i = 0 ∧ fiT l c i = [] ∧ obK l c nl (rawT l n) (firstsA l (n + 1)) i = [(5, .arr 25 3 nl (kisF (rawT l n))), (8, .var 25 [.c (.list 1 (some false) (ints c)), .c (.list 0 (some true) []), .c (.int .i64 (moT l c i))]), (19, .arr 3 1 (some false) (ints (firstsA l (n + 1))))]) ∨
            (0 < i ∧ obK l c nl (rawT l n) (firstsA l (n + 1)) i = [(5, .arr 25 3 nl (kisF (rawT l n))), (8, .var 25 [.c (.list 1 (some false) (ints c)), .own 74, .c (.int .i64 (moT l c i))]), (19, .arr 3 1 (some false) (ints (firstsA l (n + 1)))), (74, .arr 3 1 (some false) (ints (fiT l c i)))]) := by
          cases i with
          | zero => exact .inl ⟨rfl, rfl, rfl⟩
          | succ i => exact .inr ⟨Nat.succ_pos i, rfl⟩
        rcases hob with ⟨hz, hfz, hob⟩ | ⟨hz, hob⟩
        · rw [hfz] at hfi
          rw [List.nil_append] at hfi
          rcases key with ⟨e, hw, hm⟩ | ⟨e, hw, hm⟩
          · have k1 : ((i : Int) == (p : Int)) = true := by simp [e]
            have k2 : ¬ ((i : Int) < (p : Int)) := by omega
            cases wb : whT l c i with
            | false =>
              rw [wb] at hw
              simp only [hob, wb, k1, k2, c5, c6, c7, hcy, y0, y1, hay, hoy, hfy, lf2, lo2, hp, z0, hd0, nn, q1, q2, drs_len, ints_len, ints_snoc, Int.toNat_natCast, Qs, if_true, if_false, reduceCtorEq, forall_eq, bne_iff_ne, ne_eq, List.mem_cons, Nat.reduceAdd, Nat.reduceMul, Nat.reduceEqDiff, Nat.reduceLeDiff, Nat.reduceLT, Nat.reduceBEq, List.not_mem_nil, vv f15r10.eq_1, vv f15r11.eq_1, uu f15b12.eq_1, vv f15r13.eq_1, uu f15b14.eq_1, vv f15r15.eq_1, uu f15b16.eq_1, vv f15r17.eq_1, uu f15b18.eq_1, vv f15r19.eq_1, uu f15b20.eq_1, uu f15b21.eq_1, uu f15b22.eq_1, uu f15b23.eq_1, uu f15b24.eq_1, vv f15r25.eq_1, uu f15b26.eq_1]
              exact Next.intro (i + 1) (by simp only [hw]; rfl) (by simp only [obK, hfi, hm]; rfl) (by omega) hMeas
            | true =>
              rw [wb] at hw
              simp only [hob, wb, k1, k2, c5, c6, c7, hcy, y0, y1, hay, hoy, hfy, lf2, lo2, hp, z0, hd0, nn, q1, q2, drs_len, ints_len, ints_snoc, Int.toNat_natCast, Qs, if_true, if_false, reduceCtorEq, forall_eq, bne_iff_ne, ne_eq, List.mem_cons, Nat.reduceAdd, Nat.reduceMul, Nat.reduceEqDiff, Nat.reduceLeDiff, Nat.reduceLT, Nat.reduceBEq, List.not_mem_nil, vv f15r10.eq_1, vv f15r11.eq_1, uu f15b12.eq_1, vv f15r13.eq_1, uu f15b14.eq_1, vv f15r15.eq_1, uu f15b16.eq_1, vv f15r17.eq_1, uu f15b18.eq_1, vv f15r19.eq_1, uu f15b20.eq_1, uu f15b21.eq_1, uu f15b22.eq_1, uu f15b23.eq_1, uu f15b24.eq_1, vv f15r25.eq_1, uu f15b26.eq_1]
              exact Next.intro (i + 1) (by simp only [hw]; rfl) (by simp only [obK, hfi, hm]; rfl) (by omega) hMeas
          · have k1 : ((i : Int) == (p : Int)) = false := by simp; omega
            have k2 : (i : Int) < (p : Int) := by omega
            have cw : IntKind.i64.wrap (moT l c i + ownAt l y) = moT l c (i + 1) := by rw [hm]; exact wrap_in (by omega) (by omega)
            cases wb : whT l c i with
            | false =>
              rw [wb, Bool.false_and] at hw
              simp only [hob, wb, k1, k2, cw, c5, c6, c7, hcy, y0, y1, hay, hoy, hfy, lf2, lo2, hp, z0, hd0, nn, q1, q2, drs_len, ints_len, ints_snoc, Int.toNat_natCast, Qs, if_true, if_false, reduceCtorEq, forall_eq, bne_iff_ne, ne_eq, List.append_nil, List.mem_cons, Nat.reduceAdd, Nat.reduceMul, Nat.reduceEqDiff, Nat.reduceLeDiff, Nat.reduceLT, Nat.reduceBEq, List.not_mem_nil, vv f15r10.eq_1, vv f15r11.eq_1, uu f15b12.eq_1, vv f15r13.eq_1, uu f15b14.eq_1, vv f15r15.eq_1, uu f15b16.eq_1, vv f15r17.eq_1, uu f15b18.eq_1, vv f15r19.eq_1, uu f15b20.eq_1, uu f15b21.eq_1, uu f15b22.eq_1, uu f15b23.eq_1, uu f15b24.eq_1, vv f15r25.eq_1, uu f15b26.eq_1]
              exact Next.intro (i + 1) (by simp only [hw]; rfl) (by simp only [obK, hfi, ]; rfl) (by omega) hMeas
            | true =>
              rw [wb, Bool.true_and] at hw
              by_cases k3 : firstG l y < c.headD (-1)
              · rw [decide_eq_true k3] at hw
                simp only [hob, wb, k1, k2, k3, cw, c5, c6, c7, hcy, y0, y1, hay, hoy, hfy, lf2, lo2, hp, z0, hd0, nn, q1, q2, drs_len, ints_len, ints_snoc, Int.toNat_natCast, Qs, if_true, if_false, reduceCtorEq, forall_eq, bne_iff_ne, ne_eq, Int.reduceNeg, List.append_nil, List.mem_cons, Nat.reduceAdd, Nat.reduceMul, Nat.reduceEqDiff, Nat.reduceLeDiff, Nat.reduceLT, Nat.reduceBEq, Int.reduceLE, List.not_mem_nil, vv f15r10.eq_1, vv f15r11.eq_1, uu f15b12.eq_1, vv f15r13.eq_1, uu f15b14.eq_1, vv f15r15.eq_1, uu f15b16.eq_1, vv f15r17.eq_1, uu f15b18.eq_1, vv f15r19.eq_1, uu f15b20.eq_1, uu f15b21.eq_1, uu f15b22.eq_1, uu f15b23.eq_1, uu f15b24.eq_1, vv f15r25.eq_1, uu f15b26.eq_1]
                exact Next.intro (i + 1) (by simp only [hw]; rfl) (by simp only [obK, hfi, ]; rfl) (by omega) hMeas
              · rw [decide_eq_false k3] at hw
                simp only [hob, wb, k1, k2, k3, cw, c5, c6, c7, hcy, y0, y1, hay, hoy, hfy, lf2, lo2, hp, z0, hd0, nn, q1, q2, drs_len, ints_len, ints_snoc, Int.toNat_natCast, Qs, if_true, if_false, reduceCtorEq, forall_eq, bne_iff_ne, ne_eq, Int.reduceNeg, List.append_nil, List.mem_cons, Nat.reduceAdd, Nat.reduceMul, Nat.reduceEqDiff, Nat.reduceLeDiff, Nat.reduceLT, Nat.reduceBEq, Int.reduceLE, List.not_mem_nil, vv f15r10.eq_1, vv f15r11.eq_1, uu f15b12.eq_1, vv f15r13.eq_1, uu f15b14.eq_1, vv f15r15.eq_1, uu f15b16.eq_1, vv f15r17.eq_1, uu f15b18.eq_1, vv f15r19.eq_1, uu f15b20.eq_1, uu f15b21.eq_1, uu f15b22.eq_1, uu f15b23.eq_1, uu f15b24.eq_1, vv f15r25.eq_1, uu f15b26.eq_1]
                exact Next.intro (i + 1) (by simp only [hw]; rfl) (by simp only [obK, hfi, ]; rfl) (by omega) hMeas
        · skip
          rcases key with ⟨e, hw, hm⟩ | ⟨e, hw, hm⟩
          · have k1 : ((i : Int) == (p : Int)) = true := by simp [e]
            have k2 : ¬ ((i : Int) < (p : Int)) := by omega
            cases wb : whT l c i with
            | false =>
              rw [wb] at hw
              simp only [hob, wb, k1, k2, c5, c6, c7, hcy, y0, y1, hay, hoy, hfy, lf2, lo2, hp, z0, hd0, nn, q1, q2, drs_len, ints_len, ints_snoc, Int.toNat_natCast, Qs, if_true, if_false, reduceCtorEq, forall_eq, List.mem_cons, Nat.reduceAdd, Nat.reduceEqDiff, Nat.reduceLeDiff, Nat.reduceLT, Nat.reduceBEq, List.not_mem_nil, vv f15r10.eq_1, vv f15r11.eq_1, uu f15b12.eq_1, vv f15r13.eq_1, uu f15b14.eq_1, vv f15r15.eq_1, uu f15b16.eq_1, vv f15r17.eq_1, uu f15b18.eq_1, vv f15r19.eq_1, uu f15b20.eq_1, uu f15b21.eq_1, uu f15b22.eq_1, uu f15b23.eq_1, uu f15b24.eq_1, vv f15r25.eq_1, uu f15b26.eq_1]
              exact Next.intro (i + 1) (by simp only [hw]; rfl) (by simp only [obK, hfi, hm]; rfl) (by omega) hMeas
            | true =>
              rw [wb] at hw
              simp only [hob, wb, k1, k2, c5, c6, c7, hcy, y0, y1, hay, hoy, hfy, lf2, lo2, hp, z0, hd0, nn, q1, q2, drs_len, ints_len, ints_snoc, Int.toNat_natCast, Qs, if_true, if_false, reduceCtorEq, forall_eq, List.mem_cons, Nat.reduceAdd, Nat.reduceEqDiff, Nat.reduceLeDiff, Nat.reduceLT, Nat.reduceBEq, List.not_mem_nil, vv f15r10.eq_1, vv f15r11.eq_1, uu f15b12.eq_1, vv f15r13.eq_1, uu f15b14.eq_1, vv f15r15.eq_1, uu f15b16.eq_1, vv f15r17.eq_1, uu f15b18.eq_1, vv f15r19.eq_1, uu f15b20.eq_1, uu f15b21.eq_1, uu f15b22.eq_1, uu f15b23.eq_1, uu f15b24.eq_1, vv f15r25.eq_1, uu f15b26.eq_1]
              exact Next.intro (i + 1) (by simp only [hw]; rfl) (by simp only [obK, hfi, hm]; rfl) (by omega) hMeas
          · have k1 : ((i : Int) == (p : Int)) = false := by simp; omega
            have k2 : (i : Int) < (p : Int) := by omega
            have cw : IntKind.i64.wrap (moT l c i + ownAt l y) = moT l c (i + 1) := by rw [hm]; exact wrap_in (by omega) (by omega)
            cases wb : whT l c i with
            | false =>
              rw [wb, Bool.false_and] at hw
              simp only [hob, wb, k1, k2, cw, c5, c6, c7, hcy, y0, y1, hay, hoy, hfy, lf2, lo2, hp, z0, hd0, nn, q1, q2, drs_len, ints_len, ints_snoc, Int.toNat_natCast, Qs, if_true, if_false, reduceCtorEq, forall_eq, List.append_nil, List.mem_cons, Nat.reduceAdd, Nat.reduceEqDiff, Nat.reduceLeDiff, Nat.reduceLT, Nat.reduceBEq, List.not_mem_nil, vv f15r10.eq_1, vv f15r11.eq_1, uu f15b12.eq_1, vv f15r13.eq_1, uu f15b14.eq_1, vv f15r15.eq_1, uu f15b16.eq_1, vv f15r17.eq_1, uu f15b18.eq_1, vv f15r19.eq_1, uu f15b20.eq_1, uu f15b21.eq_1, uu f15b22.eq_1, uu f15b23.eq_1, uu f15b24.eq_1, vv f15r25.eq_1, uu f15b26.eq_1]
              exact Next.intro (i + 1) (by simp only [hw]; rfl) (by simp only [obK, hfi, ]; rfl) (by omega) hMeas
            | true =>
              rw [wb, Bool.true_and] at hw
              by_cases k3 : firstG l y < c.headD (-1)
              · rw [decide_eq_true k3] at hw
                simp only [hob, wb, k1, k2, k3, cw, c5, c6, c7, hcy, y0, y1, hay, hoy, hfy, lf2, lo2, hp, z0, hd0, nn, q1, q2, drs_len, ints_len, ints_snoc, Int.toNat_natCast, Qs, if_true, if_false, reduceCtorEq, forall_eq, Int.reduceNeg, List.append_nil, List.mem_cons, Nat.reduceAdd, Nat.reduceEqDiff, Nat.reduceLeDiff, Nat.reduceLT, Nat.reduceBEq, Int.reduceLE, List.not_mem_nil, vv f15r10.eq_1, vv f15r11.eq_1, uu f15b12.eq_1, vv f15r13.eq_1, uu f15b14.eq_1, vv f15r15.eq_1, uu f15b16.eq_1, vv f15r17.eq_1, uu f15b18.eq_1, vv f15r19.eq_1, uu f15b20.eq_1, uu f15b21.eq_1, uu f15b22.eq_1, uu f15b23.eq_1, uu f15b24.eq_1, vv f15r25.eq_1, uu f15b26.eq_1]
                exact Next.intro (i + 1) (by simp only [hw]; rfl) (by simp only [obK, hfi, ]; rfl) (by omega) hMeas
              · rw [decide_eq_false k3] at hw
                simp only [hob, wb, k1, k2, k3, cw, c5, c6, c7, hcy, y0, y1, hay, hoy, hfy, lf2, lo2, hp, z0, hd0, nn, q1, q2, drs_len, ints_len, ints_snoc, Int.toNat_natCast, Qs, if_true, if_false, reduceCtorEq, forall_eq, Int.reduceNeg, List.append_nil, List.mem_cons, Nat.reduceAdd, Nat.reduceEqDiff, Nat.reduceLeDiff, Nat.reduceLT, Nat.reduceBEq, Int.reduceLE, List.not_mem_nil, vv f15r10.eq_1, vv f15r11.eq_1, uu f15b12.eq_1, vv f15r13.eq_1, uu f15b14.eq_1, vv f15r15.eq_1, uu f15b16.eq_1, vv f15r17.eq_1, uu f15b18.eq_1, vv f15r19.eq_1, uu f15b20.eq_1, uu f15b21.eq_1, uu f15b22.eq_1, uu f15b23.eq_1, uu f15b24.eq_1, vv f15r25.eq_1, uu f15b26.eq_1]
                exact Next.intro (i + 1) (by simp only [hw]; rfl) (by simp only [obK, hfi, ]; rfl) (by omega) hMeas
      · obtain rfl : i = p + 1 := by omega
        have c5 : ¬ (((p + 1 : Nat) : Int) < ((p + 1 : Nat) : Int)) := by omega
        have hend : rawT l (n + 1) = if whT l c (p + 1) = true then rawT l n ++ [⟨c, fiT l c (p + 1), moT l c (p + 1)⟩] else rawT l n := by rw [← hp]; exact hr1
        cases wb : whT l c (p + 1) with
        | false =>
          rw [wb, if_neg (by simp)] at hend
          simp only [obK, wb, c4, c5, Qs, if_true, if_false, reduceCtorEq, Nat.reduceEqDiff, Nat.reduceBEq, vv f15r6.eq_1, uu f15b7.eq_1, vv f15r8.eq_1, uu f15b9.eq_1, uu f15b23.eq_1, uu f15b24.eq_1, vv f15r25.eq_1, uu f15b26.eq_1]
          exact Next.intro (n + 1, nl) rfl (by simp only [hend]; rfl) ⟨hlt, by show (rawT l (n + 1)).length ≤ n + 1; rw [hend]; omega⟩ (by show l.length - (n + 1) < l.length - n; omega)
        | true =>
          rw [wb, if_pos rfl] at hend
          have r1 : (rawT l n).length + 1 ≤ 9223372036854775807 := by omega
          have r2 : ((rawT l n).length + 1) * 56 ≤ 140737488355328 := by omega
          have hsn : kisF (rawT l n) ++ [[.list 1 (some false) (ints c), .list 1 (some false) (ints (fiT l c (p + 1))), .int .i64 (moT l c (p + 1))]] = kisF (rawT l (n + 1)) := by rw [hend, ← kisF_snoc]; rfl
          simp only [obK, wb, c4, c5, r1, r2, kisF_len, hsn, Qs, if_true, if_false, reduceCtorEq, forall_eq, bne_iff_ne, ne_eq, List.mem_cons, Nat.reduceAdd, Nat.reduceEqDiff, Nat.reduceLT, Nat.reduceBEq, List.not_mem_nil, vv f15r6.eq_1, uu f15b7.eq_1, vv f15r8.eq_1, uu f15b9.eq_1, uu f15b23.eq_1, uu f15b24.eq_1, vv f15r25.eq_1, uu f15b26.eq_1]
          exact Next.intro (n + 1, some false) rfl rfl ⟨hlt, by show (rawT l (n + 1)).length ≤ n + 1; rw [hend]; simp; omega⟩ (by show l.length - (n + 1) < l.length - n; omega)
  · obtain rfl : n = l.length := by omega
    have c1 : ¬ (l.length : Int) < l.length := by omega
    simp only [c1, Qs, if_true, Nat.reduceBEq, vv f15r3.eq_1, uu f15b4.eq_1, uu f15b50.eq_1, uu f15b51.eq_1, vv f15r52.eq_1, uu f15b53.eq_1]
    have hrl : ∀ x ∈ rawT l l.length, x.dr.length ≤ 1000 := by
      intro x hx
      obtain ⟨y, hy, rfl⟩ := List.mem_map.1 hx
      have hy := rangeI_mem.1 (List.mem_filter.1 hy).1
      have := closG_len hR.cov hy.1 (by omega : y < l.length)
      show (closG l y).length ≤ 1000
      omega
    have g32 := d32 5 (rawT l l.length) (by omega) hrl
    refine call_sortF (Q := fun out => out.Perm (rawT l l.length) ∧ out.Pairwise fun x y => ltK y x = false) (kisF (rawT l l.length)) (rawT l l.length) (g32.mono fun r o ⟨h1, out, h2, h3, h4⟩ => ⟨h1, out, ⟨h2, h3⟩, h4⟩) rfl (normRows_kisF _) ?_
    rintro out ⟨hp, hs⟩
    have := kites_eq hR.cov (l := l) (out := out) hp hs
    rw [this]
    simp only [Qs, q_V_nrm_eq_4, q_V_nrmL_eq_1, if_true, List.nodup_nil, List.nodup_cons, Nat.reduceBEq, List.not_mem_nil, vv f15r1.eq_1, uu f15b2.eq_1]
    refine hS _ ?_
    have e1 : C.normRows (List.map encKi (kitesR l)) = kis (kitesR l) := normRows_kis _
    simp [V.fz, V.nrm, Abs.K.fz, Abs.K.nrm, norm_list, e1, normRows_kis]
end Go.Abs


set_option maxRecDepth 100000
set_option maxHeartbeats 4000000
namespace Go.Abs
open Go.Proofs Go.RowKit
theorem call_s1 {P : Program} {f : FuncId} {vs : List V} {K : KK} {d : Nat} {ts : TS} {os : OS} {args : List V} {r : V} (hs : Spec P f args (fun r' => r' = r)) (hk : K (insT d r ts) os)
    (hp : vs.all (fun v => (lendL os v).isPure) = true := by simp [lendL, lendO, lookO, V.isPure])
    (ha : vs.map (fun v => (lendL os v).norm) = args := by simp [lendL, lendO, lookO, V.norm, norm_list, lst]) (hr : r.scalar = true := by rfl) : callK P f vs [] K (some d) ts os :=
  (call_s (X := False) hs hk hp ha hr).elim id False.elim
theorem take_ne {a b : List Int} {i : Nat} (hl : a.length = b.length) (hi : i < a.length) (h : a[i] ≠ b[i]'(by omega)) : a ≠ b := by
  intro e; subst e; exact h rfl
theorem take_next {a b : List Int} {i : Nat} (hl : a.length = b.length) (hi : i < a.length) (h0 : a.take i = b.take i) (h : a[i] = b[i]'(by omega)) : a.take (i + 1) = b.take (i + 1) := by
  rw [List.take_succ_eq_append_getElem hi, List.take_succ_eq_append_getElem (by omega), h0, h]
theorem e19 (a b : List Int) : Spec Try.prog 19 [lst 1 (ints a), lst 1 (ints b)] (fun r => r = .bool (decide (a = b))) := by
  refine Spec.of_len hf19 fun hlen => ?_
  have hl := len_lst (sz := 1) (rows := ints a) (by simp) hlen
  rw [ints_len] at hl
  clear hlen
  refine Spec.of_awlS hf19 okf19 (by simp) fun S hS => ?_
  by_cases he : a.length = b.length
  case neg =>
    have h1 : ((a.length : Int) != (b.length : Int)) = true := by simp; omega
    simp only [h1, ints_len, Qs, if_true, List.nodup_nil, Nat.reduceAdd, Nat.reduceBEq, uu f19.eq_1, vv f19r20.eq_1, uu f19b21.eq_1, uu f19b22.eq_1, vv f19r23.eq_1, uu f19b24.eq_1, uu f19b25.eq_1, vv f19r26.eq_1, uu f19b27.eq_1]
    exact fin hS (by rw [decide_eq_false (fun e => he (by rw [e]))])
  have h1 : ((a.length : Int) != (b.length : Int)) = false := by simp [he]
  simp only [h1, ints_len, Qs, if_true, Nat.reduceAdd, Nat.reduceBEq, uu f19.eq_1, uu f19b16.eq_1, vv f19r17.eq_1, uu f19b18.eq_1, uu f19b19.eq_1, uu f19b22.eq_1, vv f19r23.eq_1, uu f19b24.eq_1, uu f19b25.eq_1, vv f19r26.eq_1, uu f19b27.eq_1]
  rw [uu f19l15.eq_1]
  refine awl_loop (fun i : Nat => [(0, lst 1 (ints a)), (1, lst 1 (ints b)), (5, .int .i64 i)]) (fun _ => []) (fun i => i ≤ a.length ∧ a.take i = b.take i) (fun i => a.length - i) 0 rfl rfl ⟨Nat.zero_le _, rfl⟩ ?_
  rintro i ⟨hi, hd⟩
  by_cases hlt : i < a.length
  · have c1 : (i : Int) < a.length := by omega
    have c2 : (i : Int) < b.length := by omega
    have c3 : (0 : Int) ≤ (i : Int) := by omega
    have c4 : IntKind.i64.wrap ((i : Int) + 1) = (i : Int) + 1 := wrap_in (by omega) (by omega)
    have hb : i < b.length := by omega
    by_cases e : a[i] = b[i]
    · have e' : (a[i] != b[i]) = false := by simp [e]
      simp only [c1, c2, c3, c4, e', ints_len, ints_at hlt, ints_at hb, Int.toNat_natCast, Qs, if_true, Nat.reduceBEq, vv f19r3.eq_1, uu f19b6.eq_1, vv f19r7.eq_1, uu f19b8.eq_1, uu f19b9.eq_1, uu f19b10.eq_1, uu f19b11.eq_1, vv f19r12.eq_1, uu f19b13.eq_1, uu f19b14.eq_1]
      exact Next.intro (i + 1) rfl rfl ⟨by omega, take_next he hlt hd e⟩ (by omega)
    · have e' : (a[i] != b[i]) = true := by simp [e]
      simp only [c1, c2, c3, c4, e', ints_len, ints_at hlt, ints_at hb, Int.toNat_natCast, Qs, if_true, List.nodup_nil, Nat.reduceBEq, vv f19r3.eq_1, vv f19r4.eq_1, uu f19b5.eq_1, uu f19b6.eq_1, vv f19r7.eq_1, uu f19b8.eq_1, uu f19b9.eq_1, uu f19b10.eq_1, uu f19b11.eq_1, vv f19r12.eq_1, uu f19b13.eq_1, uu f19b14.eq_1]
      exact fin hS (by rw [decide_eq_false (take_ne he hlt e)])
  · obtain rfl : i = a.length := by omega
    have c1 : ¬ (a.length : Int) < a.length := by omega
    rw [List.take_length, he, List.take_length] at hd
    simp only [c1, ints_len, Qs, if_true, List.nodup_nil, Nat.reduceBEq, vv f19r1.eq_1, uu f19b2.eq_1, uu f19b11.eq_1, vv f19r12.eq_1, uu f19b13.eq_1, uu f19b14.eq_1]
    exact fin hS (by rw [decide_eq_true hd])
theorem e40 (a b : List Int) : Spec Try.prog 40 [lst 1 (ints a), lst 1 (ints b)] (fun r => r = .bool (decide (a = b))) := by
  refine Spec.of_len hf40 fun hlen => ?_
  have hl := len_lst (sz := 1) (rows := ints a) (by simp) hlen
  rw [ints_len] at hl
  clear hlen
  refine Spec.of_awlS hf40 okf40 (by simp) fun S hS => ?_
  by_cases he : a.length = b.length
  case neg =>
    have h1 : ((a.length : Int) != (b.length : Int)) = true := by simp; omega
    simp only [h1, ints_len, Qs, if_true, List.nodup_nil, Nat.reduceAdd, Nat.reduceBEq, uu f40.eq_1, vv f40r22.eq_1, uu f40b23.eq_1, uu f40b24.eq_1, vv f40r25.eq_1, uu f40b26.eq_1, uu f40b27.eq_1, vv f40r28.eq_1, uu f40b29.eq_1]
    exact fin hS (by rw [decide_eq_false (fun e => he (by rw [e]))])
  have h1 : ((a.length : Int) != (b.length : Int)) = false := by simp [he]
  simp only [h1, ints_len, Qs, if_true, Nat.reduceAdd, Nat.reduceBEq, uu f40.eq_1, uu f40b18.eq_1, vv f40r19.eq_1, uu f40b20.eq_1, uu f40b21.eq_1, uu f40b24.eq_1, vv f40r25.eq_1, uu f40b26.eq_1, uu f40b27.eq_1, vv f40r28.eq_1, uu f40b29.eq_1]
  rw [uu f40l17.eq_1]
  refine awl_loop (fun i : Nat => [(0, lst 1 (ints a)), (1, lst 1 (ints b)), (12, .int .i64 a.length), (13, .int .i64 i)]) (fun _ => []) (fun i => i ≤ a.length ∧ a.take i = b.take i) (fun i => a.length - i) 0 rfl rfl ⟨Nat.zero_le _, rfl⟩ ?_
  rintro i ⟨hi, hd⟩
  by_cases hlt : i < a.length
  · have c1 : (i : Int) < a.length := by omega
    have c2 : (i : Int) < b.length := by omega
    have c3 : (0 : Int) ≤ (i : Int) := by omega
    have c4 : IntKind.i64.wrap ((i : Int) + 1) = (i : Int) + 1 := wrap_in (by omega) (by omega)
    have hb : i < b.length := by omega
    by_cases e : a[i] = b[i]
    · have e' : (a[i] != b[i]) = false := by simp [e]
      simp only [c1, c2, c3, c4, e', ints_len, ints_at hlt, ints_at hb, Int.toNat_natCast, Qs, if_true, Nat.reduceBEq, vv f40r3.eq_1, uu f40b6.eq_1, vv f40r7.eq_1, uu f40b8.eq_1, vv f40r9.eq_1, uu f40b10.eq_1, uu f40b11.eq_1, uu f40b12.eq_1, uu f40b13.eq_1, uu f40b14.eq_1, vv f40r15.eq_1, uu f40b16.eq_1]
      exact Next.intro (i + 1) rfl rfl ⟨by omega, take_next he hlt hd e⟩ (by omega)
    · have e' : (a[i] != b[i]) = true := by simp [e]
      simp only [c1, c2, c3, c4, e', ints_len, ints_at hlt, ints_at hb, Int.toNat_natCast, Qs, if_true, List.nodup_nil, Nat.reduceBEq, vv f40r3.eq_1, vv f40r4.eq_1, uu f40b5.eq_1, uu f40b6.eq_1, vv f40r7.eq_1, uu f40b8.eq_1, vv f40r9.eq_1, uu f40b10.eq_1, uu f40b11.eq_1, uu f40b12.eq_1, uu f40b13.eq_1, uu f40b14.eq_1, vv f40r15.eq_1, uu f40b16.eq_1]
      exact fin hS (by rw [decide_eq_false (take_ne he hlt e)])
  · obtain rfl : i = a.length := by omega
    have c1 : ¬ (a.length : Int) < a.length := by omega
    rw [List.take_length, he, List.take_length] at hd
    simp only [c1, ints_len, Qs, if_true, List.nodup_nil, Nat.reduceBEq, vv f40r1.eq_1, uu f40b2.eq_1, uu f40b13.eq_1, uu f40b14.eq_1, vv f40r15.eq_1, uu f40b16.eq_1]
    exact fin hS (by rw [decide_eq_true hd])
theorem e30 (a b : Ki) : Spec Try.prog 30 [.agg (encKi a), .agg (encKi b)] (fun r => r = .bool (eqKi a b)) := by
  refine Spec.of_awlS hf30 okf30 (by simp) fun S hS => ?_
  unfold eqKi at hS
  by_cases h1 : a.mo = b.mo
  case neg =>
    have h1' : (a.mo == b.mo) = false := by simpa using h1
    rw [decide_eq_false h1, Bool.and_false, Bool.and_false] at hS
    simp only [encKi, h1', Qs, if_true, if_false, bne_iff_ne, ne_eq, List.nodup_nil, Nat.reduceAdd, Nat.reduceEqDiff, Nat.reduceBEq, uu f30.eq_1, vv f30r1.eq_1, uu f30b2.eq_1, vv f30r3.eq_1, uu f30b4.eq_1]
    exact hS
  have h1' : (a.mo == b.mo) = true := by simpa using h1
  rw [decide_eq_true h1, Bool.and_true] at hS
  simp only [encKi, h1', normRows_ints, Qs, if_true, if_false, bne_iff_ne, ne_eq, Nat.reduceAdd, Nat.reduceEqDiff, Nat.reduceLeDiff, Nat.reduceBEq, uu f30.eq_1, vv f30r1.eq_1, uu f30b2.eq_1, vv f30r3.eq_1, uu f30b4.eq_1]
  refine call_s (e19 a.dr b.dr) ?_ (ha := by simp [lendL, V.norm, lst])
  by_cases h2 : a.dr = b.dr
  case neg =>
    rw [decide_eq_false h2, Bool.false_and] at hS
    simp only [decide_eq_false h2, Qs, if_true, List.nodup_nil, Nat.reduceBEq]
    exact hS
  rw [decide_eq_true h2, Bool.true_and] at hS
  simp only [decide_eq_true h2, normRows_ints, Qs, if_true, if_false, Nat.reduceAdd, Nat.reduceLeDiff, Nat.reduceBEq]
  refine call_s (e19 a.fi b.fi) ?_ (ha := by simp [lendL, V.norm, lst])
  simp only [Qs, if_true, List.nodup_nil, Nat.reduceBEq]
  exact hS
def sameAll : List Ki → List Ki → Bool
  | [], [] => true
  | a :: x, b :: y => eqKi a b && sameAll x y
  | _, _ => false
theorem sameAll_len : ∀ {a b : List Ki}, a.length ≠ b.length → sameAll a b = false
  | [], [], h => absurd rfl h
  | [], _ :: _, _ => rfl
  | _ :: _, [], _ => rfl
  | a :: x, b :: y, h => by rw [sameAll, sameAll_len (by simpa using h), Bool.and_false]
theorem sameAll_refl : ∀ (a : List Ki), sameAll a a = true
  | [] => rfl
  | a :: x => by rw [sameAll, sameAll_refl x]; simp [eqKi]
theorem sameAll_drop {a b : List Ki} {i : Nat} (h : i < a.length) (h2 : i < b.length) : sameAll (a.drop i) (b.drop i) = (eqKi a[i] b[i] && sameAll (a.drop (i + 1)) (b.drop (i + 1))) := by
  rw [List.drop_eq_getElem_cons h, List.drop_eq_getElem_cons h2, sameAll]
theorem e14 (a b : List Ki) : Spec Try.prog 14 [lst 3 (kis a), lst 3 (kis b)] (fun r => r = .bool (sameAll a b)) := by
  refine Spec.of_len hf14 fun hlen => ?_
  have hl := len_lst (sz := 3) (rows := kis a) (by simp) hlen
  rw [kis_len] at hl
  clear hlen
  refine Spec.of_awlS hf14 okf14 (by simp) fun S hS => ?_
  by_cases he : a.length = b.length
  case neg =>
    have h1 : ((a.length : Int) != (b.length : Int)) = true := by simp; omega
    simp only [h1, kis_len, normRows_kis, Qs, if_true, List.nodup_nil, Nat.reduceAdd, Nat.reduceBEq, uu f14.eq_1, vv f14r20.eq_1, uu f14b21.eq_1, uu f14b22.eq_1, vv f14r23.eq_1, uu f14b24.eq_1, uu f14b25.eq_1, vv f14r26.eq_1, uu f14b27.eq_1]
    exact fin hS (by rw [sameAll_len he])
  have h1 : ((a.length : Int) != (b.length : Int)) = false := by simp [he]
  simp only [h1, kis_len, normRows_kis, Qs, if_true, Nat.reduceAdd, Nat.reduceBEq, uu f14.eq_1, uu f14b16.eq_1, vv f14r17.eq_1, uu f14b18.eq_1, uu f14b19.eq_1, uu f14b22.eq_1, vv f14r23.eq_1, uu f14b24.eq_1, uu f14b25.eq_1, vv f14r26.eq_1, uu f14b27.eq_1]
  rw [uu f14l15.eq_1]
  refine awl_loop (fun i : Nat => [(0, lst 3 (kis a)), (1, lst 3 (kis b)), (5, .int .i64 i)]) (fun _ => []) (fun i => i ≤ a.length ∧ sameAll (a.drop i) (b.drop i) = sameAll a b) (fun i => a.length - i) 0 rfl rfl ⟨Nat.zero_le _, rfl⟩ ?_
  rintro i ⟨hi, hd⟩
  by_cases hlt : i < a.length
  · have c1 : (i : Int) < a.length := by omega
    have c2 : (i : Int) < b.length := by omega
    have c3 : (0 : Int) ≤ (i : Int) := by omega
    have c4 : IntKind.i64.wrap ((i : Int) + 1) = (i : Int) + 1 := wrap_in (by omega) (by omega)
    have hb : i < b.length := by omega
    rw [sameAll_drop hlt hb] at hd
    simp only [c1, c2, c3, c4, kis_len, kis_at hlt, kis_at hb, normRows_kis, Int.toNat_natCast, Qs, if_true, Nat.reduceBEq, vv f14r3.eq_1, vv f14r7.eq_1, uu f14b8.eq_1, uu f14b9.eq_1, uu f14b10.eq_1, uu f14b11.eq_1, vv f14r12.eq_1, uu f14b13.eq_1, uu f14b14.eq_1]
    refine callQ_s (e30 a[i] b[i]) ?_ (ha := by simp [lendL, V.norm, normRow_encKi])
    cases hq : eqKi a[i] b[i] with
    | false =>
      rw [hq, Bool.false_and] at hd
      simp only [Qs, List.nodup_nil, vv f14r4.eq_1, uu f14b5.eq_1, uu f14b6.eq_1]
      exact fin hS (by rw [← hd])
    | true =>
      rw [hq, Bool.true_and] at hd
      simp only [c4, Qs, if_true, Nat.reduceBEq, uu f14b6.eq_1]
      exact Next.intro (i + 1) rfl rfl ⟨by omega, hd⟩ (by omega)
  · obtain rfl : i = a.length := by omega
    have c1 : ¬ (a.length : Int) < a.length := by omega
    rw [List.drop_length, List.drop_of_length_le (by omega)] at hd
    simp only [c1, kis_len, Qs, if_true, List.nodup_nil, Nat.reduceBEq, vv f14r1.eq_1, uu f14b2.eq_1, uu f14b11.eq_1, vv f14r12.eq_1, uu f14b13.eq_1, uu f14b14.eq_1]
    exact fin hS (by rw [← hd]; rfl)
theorem e39 (x k : Ki) : Spec Try.prog 39 [.agg (encKi x), .k (.c (.ro (encKi k) 0))] (fun r => r = .bool (eqKi x k)) := by
  refine Spec.of_awlS hf39 okf39 (by simp) fun S hS => ?_
  unfold eqKi at hS
  simp only [encKi, normRows_ints, Qs, if_false, Nat.reduceAdd, Nat.reduceLeDiff, Nat.reduceBEq, uu f39.eq_1, vv f39r1.eq_1, uu f39b2.eq_1, vv f39r3.eq_1, uu f39b4.eq_1]
  refine call_s (e40 x.dr k.dr) ?_ (ha := by simp [lendL, V.norm, lst])
  by_cases h2 : x.dr = k.dr
  case neg =>
    rw [decide_eq_false h2, Bool.false_and] at hS
    simp only [decide_eq_false h2, Qs, List.nodup_nil, Nat.reduceBEq]
    exact hS
  rw [decide_eq_true h2, Bool.true_and] at hS
  simp only [decide_eq_true h2, normRows_ints, Qs, if_false, Nat.reduceAdd, Nat.reduceLeDiff, Nat.reduceBEq]
  refine call_s (e40 x.fi k.fi) ?_ (ha := by simp [lendL, V.norm, lst])
  by_cases h3 : x.fi = k.fi
  case neg =>
    rw [decide_eq_false h3, Bool.false_and] at hS
    simp only [decide_eq_false h3, Qs, if_true, List.nodup_nil, Nat.reduceBEq]
    exact hS
  rw [decide_eq_true h3, Bool.true_and] at hS
  by_cases h4 : x.mo = k.mo
  · have h4' : (x.mo == k.mo) = true := by simpa using h4
    rw [decide_eq_true h4] at hS
    simp only [decide_eq_true h3, h4', Qs, if_true, if_false, List.nodup_nil, Nat.reduceAdd, Nat.reduceBEq]
    exact hS
  · have h4' : (x.mo == k.mo) = false := by simpa using h4
    rw [decide_eq_false h4] at hS
    simp only [decide_eq_true h3, h4', Qs, if_true, if_false, List.nodup_nil, Nat.reduceAdd, Nat.reduceBEq]
    exact hS
def idxK (k : Ki) : List Ki → Nat → Int
  | [], _ => -1
  | a :: l, i => if eqKi a k = true then i else idxK k l (i + 1)
theorem idxK_drop {k : Ki} {l : List Ki} {i : Nat} (h : i < l.length) : idxK k (l.drop i) i = if eqKi l[i] k = true then (i : Int) else idxK k (l.drop (i + 1)) (i + 1) := by
  rw [List.drop_eq_getElem_cons h, idxK]
theorem idxK_pos (k : Ki) : ∀ (l : List Ki) (i : Nat), idxK k l i ≥ 0 ↔ provesG l k = true
  | [], i => by simp [idxK, provesG]
  | a :: l, i => by
    rw [idxK]
    by_cases h : eqKi a k = true
    · rw [if_pos h]; simp [h, provesG]
    · rw [if_neg h, idxK_pos k l (i + 1)]; simp [h, provesG]
theorem e49 (l : List Ki) (k : Ki) : Spec Try.prog 49 [lst 3 (kis l), .k (.c (.fn 39 [.ro (encKi k) 0]))] (fun r => r = .int .i64 (idxK k l 0)) := by
  refine Spec.of_len hf49 fun hlen => ?_
  have hl := len_lst (sz := 3) (rows := kis l) List.mem_cons_self hlen
  rw [kis_len] at hl
  clear hlen
  refine Spec.of_awlS hf49 okf49 (by simp) fun S hS => ?_
  simp only [kis_len, normRows_kis, Qs, Nat.reduceAdd, Nat.reduceBEq, uu f49.eq_1, uu f49b18.eq_1, vv f49r19.eq_1, uu f49b20.eq_1, uu f49b21.eq_1, vv f49r22.eq_1, uu f49b23.eq_1]
  rw [uu f49l17.eq_1]
  refine awl_loop (fun i : Nat => [(0, lst 3 (kis l)), (1, .k (.c (.fn 39 [.ro (encKi k) 0]))), (7, .int .i64 l.length), (8, .int .i64 i)]) (fun _ => []) (fun i => i ≤ l.length ∧ idxK k (l.drop i) i = idxK k l 0) (fun i => l.length - i) 0 rfl rfl ⟨Nat.zero_le _, rfl⟩ ?_
  rintro i ⟨hi, hn⟩
  by_cases hlt : i < l.length
  · have c1 : (i : Int) < l.length := by omega
    have c4 : IntKind.i64.wrap ((i : Int) + 1) = (i : Int) + 1 := wrap_in (by omega) (by omega)
    rw [idxK_drop hlt] at hn
    simp only [c1, c4, kis_len, kis_at hlt, normRows_kis, Qs, q_exL_eq_29, if_true, Nat.reduceBEq, vv f49r3.eq_1, vv f49r7.eq_1, uu f49b8.eq_1, vv f49r9.eq_1, uu f49b10.eq_1, uu f49b11.eq_1, uu f49b12.eq_1, uu f49b13.eq_1, uu f49b14.eq_1, vv f49r15.eq_1, uu f49b16.eq_1]
    refine call_c (e39 l[i] k) ?_ (ha := by simp [lendL, V.norm, normRow_encKi])
    by_cases he : eqKi l[i] k = true
    · rw [if_pos he] at hn
      simp only [he, Qs, List.nodup_nil, Nat.reduceBEq, vv f49r4.eq_1, uu f49b5.eq_1, uu f49b6.eq_1]
      exact fin hS (by rw [← hn])
    · rw [if_neg he] at hn
      simp only [he, c4, Qs, if_true, Nat.reduceBEq, uu f49b6.eq_1]
      exact Next.intro (i + 1) rfl rfl ⟨by omega, hn⟩ (by omega)
  · obtain rfl : i = l.length := by omega
    have c1 : ¬ (l.length : Int) < l.length := by omega
    simp only [c1, kis_len, Qs, if_true, Int.reduceNeg, List.nodup_nil, Nat.reduceBEq, vv f49r1.eq_1, uu f49b2.eq_1, uu f49b13.eq_1, uu f49b14.eq_1, vv f49r15.eq_1, uu f49b16.eq_1]
    rw [List.drop_length] at hn
    exact fin hS (by rw [← hn]; rfl)
theorem e38 (l : List Ki) (k : Ki) : Spec Try.prog 38 [lst 3 (kis l), .k (.c (.fn 39 [.ro (encKi k) 0]))] (fun r => r = .bool (provesG l k)) := by
  refine Spec.of_awlS hf38 okf38 (by simp) fun S hS => ?_
  simp only [normRows_kis, Qs, Nat.reduceAdd, Nat.reduceBEq, uu f38.eq_1, vv f38r1.eq_1, uu f38b2.eq_1, vv f38r3.eq_1, uu f38b4.eq_1]
  refine call_s (e49 l k) ?_ (ha := by simp [lendL, V.norm, lst, normRows_kis, normRow_encKi])
  have h := idxK_pos k l 0
  cases hm : provesG l k with
  | true =>
    have h1 := h.2 hm
    rw [hm] at hS
    simp only [h1, Qs, if_true, List.nodup_nil]
    exact hS
  | false =>
    have h1 : ¬ idxK k l 0 ≥ 0 := fun g => by rw [h.1 g] at hm; cases hm
    rw [hm] at hS
    simp only [h1, Qs, if_true, List.nodup_nil]
    exact hS
def kitesG (l : List Dr) : List Ki := if chkG l = 0 then kitesR l else []
theorem e17 (l : List Dr) (k : Ki) : Spec Try.prog 17 [lst 6 (drs l), .agg (encKi k)] (fun r => r = .bool (provesG (kitesG l) k)) := by
  refine Spec.of_awlS hf17 okf17 (by simp) fun S hS => ?_
  have g15 : Spec Try.prog 15 [lst 6 (drs l)] (fun r => r = lst 3 (kis (kitesG l))) := d15 l
  simp only [encKi, normRows_drs, normRows_ints, Qs, Nat.reduceAdd, Nat.reduceBEq, uu f17.eq_1, vv f17r1.eq_1, uu f17b2.eq_1, vv f17r3.eq_1, uu f17b4.eq_1]
  refine call_r g15 ?_ (ha := by simp [lendL, V.norm, lst, normRows_drs])
  simp only [normRows_kis, Qs, q_exL_eq_17, Nat.reduceBEq, z_capP, z_caps_nil, z_caps_ptr, z_fnV, z_fnP2, z_pureCaps_tok]
  refine call_f 3 (by simp [look, lookT]) (by simp [V.hard, V.toks, Abs.K.toks, Cap.toks]) (by simp [lookO, plainO, Abs.K.toks]) ?_
  simp only [normRows_kis, Qs, if_true, Nat.reduceBEq, q_roK_1, q_fnkF_1, q_capR_1, z_K_ptr, z_K_fnk, z_Cap_tok, z_pureCaps_nil, z_pureCaps_ro]
  refine call_s1 (e38 (kitesG l) k) ?_ (ha := by simp [lendL, V.norm, lst, normRows_kis, encKi])
  simp only [Qs, List.nodup_nil]
  exact hS
def edgeE (l : List (Int × Int)) (a b : Int) : Bool := l.any fun p => decide (p.1 = a) && decide (p.2 = b)
theorem e23 (l : List (Int × Int)) (a b : Int) : Spec Try.prog 23 [lst 2 (eds l), .int .i64 a, .int .i64 b] (fun r => r = .bool (edgeE l a b)) := by
  refine Spec.of_len hf23 fun hlen => ?_
  have hl := len_lst (sz := 2) (rows := eds l) (by simp) hlen
  rw [eds_len] at hl
  clear hlen
  refine Spec.of_awlS hf23 okf23 (by simp) fun S hS => ?_
  simp only [eds_len, normRows_eds, Qs, Nat.reduceAdd, uu f23.eq_1, uu f23b16.eq_1, vv f23r17.eq_1, uu f23b18.eq_1, uu f23b19.eq_1, vv f23r20.eq_1, uu f23b21.eq_1]
  rw [uu f23l15.eq_1]
  refine awl_loop (fun i : Nat => [(0, lst 2 (eds l)), (1, .int .i64 a), (2, .int .i64 b), (7, .int .i64 i)]) (fun _ => []) (fun i => i ≤ l.length ∧ edgeE (l.drop i) a b = edgeE l a b) (fun i => l.length - i) 0 rfl rfl ⟨Nat.zero_le _, rfl⟩ ?_
  rintro i ⟨hi, hd⟩
  by_cases hlt : i < l.length
  · have c1 : (i : Int) < l.length := by omega
    have c4 : IntKind.i64.wrap ((i : Int) + 1) = (i : Int) + 1 := wrap_in (by omega) (by omega)
    have z0 : (0 : Int).toNat = 0 := rfl
    have z1 : (1 : Int).toNat = 1 := rfl
    have hdd : edgeE (l.drop i) a b = (decide (l[i].1 = a) && decide (l[i].2 = b) || edgeE (l.drop (i + 1)) a b) := by
      rw [List.drop_eq_getElem_cons hlt]; rfl
    rw [hdd] at hd
    by_cases h1 : l[i].1 = a
    · have h1' : (l[i].1 == a) = true := by simpa using h1
      by_cases h2 : l[i].2 = b
      · have h2' : (l[i].2 == b) = true := by simpa using h2
        rw [decide_eq_true h1, decide_eq_true h2, Bool.true_and, Bool.true_or] at hd
        simp only [c1, c4, h1', h2', eds_len, eds_at hlt, normRows_eds, Qs, if_true, List.nodup_nil, Nat.reduceAdd, Nat.reduceLeDiff, Nat.reduceBEq, Int.reduceLT, Int.reduceLE, Int.reduceToNat, vv f23r3.eq_1, vv f23r4.eq_1, uu f23b5.eq_1, uu f23b6.eq_1, vv f23r7.eq_1, uu f23b8.eq_1, uu f23b9.eq_1, uu f23b10.eq_1, uu f23b11.eq_1, vv f23r12.eq_1, uu f23b13.eq_1, uu f23b14.eq_1]
        exact fin hS (by rw [← hd])
      · have h2' : (l[i].2 == b) = false := by simpa using h2
        rw [decide_eq_false h2, Bool.and_false, Bool.false_or] at hd
        simp only [c1, c4, h1', h2', eds_len, eds_at hlt, normRows_eds, Qs, if_true, Nat.reduceAdd, Nat.reduceLeDiff, Nat.reduceBEq, Int.reduceLT, Int.reduceLE, Int.reduceToNat, vv f23r3.eq_1, uu f23b6.eq_1, vv f23r7.eq_1, uu f23b8.eq_1, uu f23b9.eq_1, uu f23b10.eq_1, uu f23b11.eq_1, vv f23r12.eq_1, uu f23b13.eq_1, uu f23b14.eq_1]
        exact Next.intro (i + 1) rfl rfl ⟨by omega, hd⟩ (by omega)
    · have h1' : (l[i].1 == a) = false := by simpa using h1
      rw [decide_eq_false h1, Bool.false_and, Bool.false_or] at hd
      simp only [c1, c4, h1', eds_len, eds_at hlt, normRows_eds, Qs, if_true, Nat.reduceLeDiff, Nat.reduceBEq, Int.reduceLT, Int.reduceLE, vv f23r3.eq_1, uu f23b6.eq_1, vv f23r7.eq_1, uu f23b8.eq_1, uu f23b9.eq_1, uu f23b10.eq_1, uu f23b11.eq_1, vv f23r12.eq_1, uu f23b13.eq_1, uu f23b14.eq_1]
      exact Next.intro (i + 1) rfl rfl ⟨by omega, hd⟩ (by omega)
  · obtain rfl : i = l.length := by omega
    have c1 : ¬ (l.length : Int) < l.length := by omega
    rw [List.drop_length] at hd
    simp only [c1, eds_len, Qs, if_true, List.nodup_nil, Nat.reduceBEq, vv f23r1.eq_1, uu f23b2.eq_1, uu f23b11.eq_1, vv f23r12.eq_1, uu f23b13.eq_1, uu f23b14.eq_1]
    exact fin hS (by rw [← hd]; rfl)
def edgesD (l : List Dr) : List (Int × Int) := l.map fun x => (x.d, x.a)
theorem edgesD_len (l : List Dr) : (edgesD l).length = l.length := by simp [edgesD]
theorem edgesD_take {l : List Dr} {i : Nat} (h : i < l.length) : edgesD (l.take (i + 1)) = edgesD (l.take i) ++ [((dat l i).d, (dat l i).a)] := by
  unfold edgesD
  rw [List.take_succ_eq_append_getElem h, dat_nat h, List.map_append]; rfl
theorem e24 (l : List Dr) (hl : l.length ≤ 1000000) : Spec Try.prog 24 [lst 6 (drs l)] (fun r => r = lst 2 (eds (edgesD l))) := by
  refine Spec.of_awlP hf24 okf24 (by simp) fun S hS => ?_
  simp only [drs_len, normRows_drs, Qs, implies_true, bne_iff_ne, ne_eq, Nat.reduceAdd, Nat.reduceEqDiff, Nat.reduceBEq, List.not_mem_nil, implies_true, uu f24.eq_1, uu f24b12.eq_1, vv f24r13.eq_1, uu f24b14.eq_1, uu f24b15.eq_1, vv f24r16.eq_1, uu f24b17.eq_1, vv f24r18.eq_1, uu f24b19.eq_1]
  rw [uu f24l11.eq_1]
  refine awl_loop (fun i : Nat => [(0, lst 6 (drs l)), (3, .k (.own 5)), (4, .int .i64 i)]) (fun i => [(5, .arr 59 2 (some false) (eds (edgesD (l.take i))))]) (fun i => i ≤ l.length) (fun i => l.length - i) 0 rfl rfl (Nat.zero_le _) ?_
  intro i hi
  by_cases hlt : i < l.length
  · have c1 : (i : Int) < l.length := by omega
    have c3 : (0 : Int) ≤ (i : Int) := by omega
    have c4 : IntKind.i64.wrap ((i : Int) + 1) = (i : Int) + 1 := wrap_in (by omega) (by omega)
    have hat := drs_nat hlt
    have hn := edgesD_take hlt
    have hle : (edgesD (l.take i)).length ≤ 1000000 := by rw [edgesD_len, List.length_take]; omega
    have q1 : (edgesD (l.take i)).length + 1 ≤ 9223372036854775807 := by omega
    have q2 : ((edgesD (l.take i)).length + 1) * 16 ≤ 140737488355328 := by omega
    simp only [c1, c3, c4, hat, q1, q2, drs_len, normRows_drs, eds_len, eds_snoc, Int.toNat_natCast, Qs, q_exLQ_eq_6, if_true, reduceCtorEq, forall_eq, List.append_nil, List.mem_cons, Nat.reduceAdd, Nat.reduceLeDiff, Nat.reduceLT, Nat.reduceBEq, List.not_mem_nil, vv f24r3.eq_1, vv f24r4.eq_1, uu f24b5.eq_1, uu f24b6.eq_1, uu f24b7.eq_1, vv f24r8.eq_1, uu f24b9.eq_1, uu f24b10.eq_1]
    exact Next.intro (i + 1) rfl (by simp only [hn]; rfl) (by omega) (by omega)
  · obtain rfl : i = l.length := by omega
    have c1 : ¬ (l.length : Int) < l.length := by omega
    rw [List.take_length]
    simp only [c1, drs_len, Qs, if_true, List.nodup_nil, List.nodup_cons, Nat.reduceBEq, List.not_mem_nil, vv f24r1.eq_1, uu f24b2.eq_1, uu f24b7.eq_1, vv f24r8.eq_1, uu f24b9.eq_1, uu f24b10.eq_1]
    exact hS _ (by simp [V.fz, V.nrm, Abs.K.fz, Abs.K.nrm, norm_list, normRows_eds])
def ringG (l : List Dr) : List Int := if chkG l = 0 then cycleG 200 (edgesD l) else []
theorem e20 (l : List Dr) : Spec Try.prog 20 [lst 6 (drs l)] (fun r => r = lst 1 (ints (ringG l))) := by
  refine Spec.of_awlP hf20 okf20 (by simp) fun S hS => ?_
  unfold ringG at hS
  simp only [normRows_drs, Qs, Nat.reduceBEq, uu f20.eq_1, vv f20r23.eq_1, uu f20b24.eq_1, uu f20b25.eq_1, vv f20r26.eq_1, uu f20b27.eq_1]
  refine call_s (d10 l) ?_ (ha := by simp [lendL, lendO, lookO, V.norm, norm_list, lst, normRows_drs])
  by_cases h : chkG l = 0
  case neg =>
    have hb : (chkG l != 0) = true := by simpa using h
    rw [if_neg h] at hS
    simp only [hb, Qs, if_true, BEq.rfl, List.nodup_nil, List.nodup_cons, Nat.reduceBEq, List.not_mem_nil, vv f20r20.eq_1, uu f20b21.eq_1, uu f20b22.eq_1]
    exact hS _ rfl
  have hb : (chkG l != 0) = false := by simpa using h
  rw [if_pos h] at hS
  have hR := right_of h
  have hll := hR.len
  simp only [hb, drs_len, normRows_drs, Qs, if_true, bne_iff_ne, ne_eq, Nat.reduceEqDiff, Nat.reduceBEq, uu f20b14.eq_1, vv f20r15.eq_1, uu f20b16.eq_1, uu f20b17.eq_1, vv f20r18.eq_1, uu f20b19.eq_1, uu f20b22.eq_1]
  rw [uu f20l13.eq_1]
  refine awl_loop (fun x : Nat × Option Bool => [(3, .k (.own 3)), (9, lst 6 (drs l)), (10, .int .i64 l.length), (11, .int .i64 x.1)]) (fun x => [(3, .arr 59 2 x.2 (eds (edgesD (l.take x.1))))]) (fun x => x.1 ≤ l.length) (fun x => l.length - x.1) (0, some true) rfl rfl (Nat.zero_le _) ?_
  rintro ⟨i, nl⟩ hi
  simp only [] at hi
  by_cases hlt : i < l.length
  · have c1 : (i : Int) < l.length := by omega
    have c3 : (0 : Int) ≤ (i : Int) := by omega
    have c4 : IntKind.i64.wrap ((i : Int) + 1) = (i : Int) + 1 := wrap_in (by omega) (by omega)
    have hat := drs_nat hlt
    have hn := edgesD_take hlt
    have hle : (edgesD (l.take i)).length ≤ 100 := by rw [edgesD_len, List.length_take]; omega
    have q1 : (edgesD (l.take i)).length + 1 ≤ 9223372036854775807 := by omega
    have q2 : ((edgesD (l.take i)).length + 1) * 16 ≤ 140737488355328 := by omega
    simp only [c1, c3, c4, hat, q1, q2, drs_len, normRows_drs, eds_len, eds_snoc, Int.toNat_natCast, Qs, if_true, if_false, forall_eq, bne_iff_ne, ne_eq, List.append_nil, List.mem_cons, Nat.reduceAdd, Nat.reduceEqDiff, Nat.reduceLeDiff, Nat.reduceLT, Nat.reduceBEq, List.not_mem_nil, vv f20r3.eq_1, vv f20r4.eq_1, vv f20r5.eq_1, uu f20b6.eq_1, uu f20b7.eq_1, uu f20b8.eq_1, uu f20b9.eq_1, uu f20b10.eq_1, vv f20r11.eq_1, uu f20b12.eq_1]
    exact Next.intro (i + 1, some false) rfl (by simp only [hn]; rfl) (by show i + 1 ≤ l.length; omega) (by show l.length - (i + 1) < l.length - i; omega)
  · obtain rfl : i = l.length := by omega
    have c1 : ¬ (l.length : Int) < l.length := by omega
    have g41' := g41 200 (edgesD l)
    have hrg : rightG ((200 : Nat) : Int) (edgesD l) = true := by
      unfold rightG
      rw [Bool.and_eq_true, decide_eq_true_eq, List.all_eq_true, edgesD_len]
      refine ⟨by omega, fun p hp => ?_⟩
      obtain ⟨x, hx, rfl⟩ := List.mem_map.1 hp
      have := hR.firm x hx
      unfold edgeOk
      rw [decide_eq_true_eq]
      show 0 ≤ x.d ∧ x.d < _ ∧ 0 ≤ x.a ∧ x.a < _
      omega
    rw [hrg, if_pos rfl] at g41'
    rw [List.take_length]
    simp only [c1, drs_len, normRows_eds, Qs, if_true, Nat.reduceBEq, vv f20r1.eq_1, uu f20b2.eq_1, uu f20b9.eq_1, uu f20b10.eq_1, vv f20r11.eq_1, uu f20b12.eq_1]
    refine call_o 3 (by simp [look, lookT]) g41' (by simp [lendL, lendO, lookO, V.isPure]) (by simp [lendL, lendO, lookO, V.norm, norm_list, lst, normRows_eds]) (by simp [V.toks, Abs.K.toks]) (by simp [lookO, plainO]) rfl ?_
    simp only [Qs, if_true, List.nodup_nil]
    exact hS _ (by simp [V.fz, V.nrm, Abs.K.fz, Abs.K.nrm, norm_list])
end Go.Abs


set_option maxRecDepth 100000
set_option maxHeartbeats 4000000
namespace Go.Abs
theorem sortI_asc (l : List Int) : (sortI l).Pairwise (· ≤ ·) := by
  have := List.pairwise_mergeSort (le := fun x y : Int => decide (x ≤ y)) (fun a b c h1 h2 => by simp at *; omega) (fun a b => by simp; omega) l
  exact this.imp (fun h => by simpa using h)
theorem mem_sortI (l : List Int) (x : Int) : x ∈ sortI l ↔ x ∈ l := List.mem_mergeSort
theorem compact_asc (l : List Int) (hs : l.Pairwise (· ≤ ·)) : (Lib.compact l).Pairwise (· < ·) ∧ ∀ x, x ∈ Lib.compact l ↔ x ∈ l := by
  have hget : ∀ i j, i ≤ j → j < l.length → l.toArray[i]! ≤ l.toArray[j]! := by
    intro i j hij hj
    rw [getElem!_pos l.toArray i (by simp; omega), getElem!_pos l.toArray j (by simpa using hj)]
    simp only [List.getElem_toArray]
    rcases Nat.eq_or_lt_of_le hij with h | h
    · subst h; omega
    · exact List.pairwise_iff_getElem.1 hs i j (by omega) hj h
  have key : ∀ m, m ≤ l.length → (Lib.compactUpTo l.toArray m).Pairwise (· < ·) ∧ ∀ x, x ∈ Lib.compactUpTo l.toArray m ↔ ∃ j, j < m ∧ l.toArray[j]! = x := by
    intro m
    induction m with
    | zero => intro _; simp [Lib.compactUpTo]
    | succ m ih =>
      intro hm
      obtain ⟨h1, h2⟩ := ih (by omega)
      have hsucc : Lib.compactUpTo l.toArray (m + 1) = Lib.compactUpTo l.toArray m ++ (if Lib.keeps l.toArray m = true then [l.toArray[m]!] else []) := by
        unfold Lib.compactUpTo
        rw [List.range_succ, List.filter_append, List.map_append]
        congr 1
        by_cases hk : Lib.keeps l.toArray m = true <;> simp [hk]
      rw [hsucc]
      by_cases hk : Lib.keeps l.toArray m = true
      · rw [if_pos hk]
        refine ⟨?_, fun x => ?_⟩
        · rw [List.pairwise_append]
          refine ⟨h1, by simp, fun a ha b hb => ?_⟩
          have hb := List.mem_singleton.1 hb
          subst hb
          obtain ⟨j, hj, rfl⟩ := (h2 a).1 ha
          have hle := hget j m (by omega) (by omega)
          have hk' : m = 0 ∨ l.toArray[m]! ≠ l.toArray[m - 1]! := by simpa [Lib.keeps] using hk
          rcases hk' with h0 | hne
          · omega
          · have ha := hget j (m - 1) (by omega) (by omega)
            have hb := hget (m - 1) m (by omega) (by omega)
            omega
        · rw [List.mem_append, h2]
          simp only [List.mem_singleton]
          constructor
          · rintro (⟨j, hj, rfl⟩ | rfl)
            · exact ⟨j, by omega, rfl⟩
            · exact ⟨m, by omega, rfl⟩
          · rintro ⟨j, hj, rfl⟩
            rcases Nat.lt_or_ge j m with h | h
            · exact .inl ⟨j, h, rfl⟩
            · have : j = m := by omega
              subst this; exact .inr rfl
      · rw [if_neg hk]
        simp only [List.append_nil]
        refine ⟨h1, fun x => ?_⟩
        rw [h2]
        have hk' : ¬ (m = 0 ∨ l.toArray[m]! ≠ l.toArray[m - 1]!) := by simpa [Lib.keeps] using hk
        have hm0 : m ≠ 0 := fun h => hk' (.inl h)
        have heq : l.toArray[m]! = l.toArray[m - 1]! := by
          by_cases h : l.toArray[m]! = l.toArray[m - 1]!
          · exact h
          · exact absurd (.inr h) hk'
        constructor
        · rintro ⟨j, hj, rfl⟩; exact ⟨j, by omega, rfl⟩
        · rintro ⟨j, hj, rfl⟩
          rcases Nat.lt_or_ge j m with h | h
          · exact ⟨j, h, rfl⟩
          · have : j = m := by omega
            subst this; exact ⟨j - 1, by omega, heq.symm⟩
  obtain ⟨h1, h2⟩ := key l.length (Nat.le_refl _)
  refine ⟨h1, fun x => ?_⟩
  show x ∈ Lib.compactUpTo l.toArray l.length ↔ _
  rw [h2, List.mem_iff_getElem]
  constructor
  · rintro ⟨j, hj, rfl⟩
    exact ⟨j, hj, by rw [getElem!_pos l.toArray j (by simpa using hj)]; simp⟩
  · rintro ⟨j, hj, rfl⟩
    exact ⟨j, hj, by rw [getElem!_pos l.toArray j (by simpa using hj)]; simp⟩
theorem outs_facts (l : List (Int × Int)) (x : Int) : (∀ a, a ∈ outs l x ↔ edgeE l x a = true) ∧ (outs l x).Pairwise (· < ·) := by
  obtain ⟨h1, h2⟩ := compact_asc (sortI ((l.filter fun p => decide (p.1 = x)).map (·.2))) (sortI_asc _)
  refine ⟨fun a => ?_, h1⟩
  unfold outs
  rw [h2, mem_sortI]
  unfold edgeE
  simp only [List.mem_map, List.mem_filter, List.any_eq_true, Bool.and_eq_true, decide_eq_true_eq]
  constructor
  · rintro ⟨p, ⟨h3, h4⟩, h5⟩; exact ⟨p, h3, h4, h5⟩
  · rintro ⟨p, h3, h4, h5⟩; exact ⟨p, ⟨h3, h4⟩, h5⟩
theorem edgeE_swap (l : List (Int × Int)) (a b : Int) : edgeE (swapE l) a b = edgeE l b a := by
  unfold edgeE swapE
  rw [List.any_map]
  congr 1
  funext p
  show (decide (p.2 = a) && decide (p.1 = b)) = _
  rw [Bool.and_comm]
theorem edgeE_mem {l : List (Int × Int)} {a b : Int} (h : edgeE l a b = true) : ∃ p ∈ l, p.1 = a ∧ p.2 = b := by
  unfold edgeE at h
  simp only [List.any_eq_true, Bool.and_eq_true, decide_eq_true_eq] at h
  exact h
theorem cycle_eq {l : List (Int × Int)} {n N : Nat} (hnN : n ≤ N) (h : ∀ p ∈ l, 0 ≤ p.1 ∧ p.1 < n ∧ 0 ≤ p.2 ∧ p.2 < n) : cycleG N l = cycR (edgeE l) n := by
  unfold cycleG
  have hE : ∀ x y, edgeE l x y = true → 0 ≤ x ∧ x < n ∧ 0 ≤ y ∧ y < n := by
    intro x y hxy
    obtain ⟨p, hp, rfl, rfl⟩ := edgeE_mem hxy
    exact h p hp
  refine cyc_eq hnN hE (fun x h0 h1 => ?_) (fun b h0 h1 a => ?_)
  · rw [nextG_at (by omega), show ((x.toNat : Nat) : Int) = x by omega]
    exact outs_facts l x
  · rw [nextG_at (by omega), show ((b.toNat : Nat) : Int) = b by omega, (outs_facts (swapE l) b).1, edgeE_swap]
def maxF (l : List Dr) : Int := l.foldl (fun n x => max n (max x.d x.a + 1)) 0
theorem maxF_take {l : List Dr} {i : Nat} (h : i < l.length) : maxF (l.take (i + 1)) = max (maxF (l.take i)) (max (dat l i).d (dat l i).a + 1) := by
  unfold maxF
  rw [List.take_succ_eq_append_getElem h, List.foldl_append, dat_nat h]; rfl
theorem maxF_facts {l : List Dr} (hf : ∀ x ∈ l, 0 ≤ x.d ∧ x.d < 200 ∧ 0 ≤ x.a ∧ x.a < 200) : ∀ i, i ≤ l.length → 0 ≤ maxF (l.take i) ∧ maxF (l.take i) ≤ 200 ∧ ∀ x ∈ l.take i, x.d < maxF (l.take i) ∧ x.a < maxF (l.take i)
  | 0, _ => by simp [maxF]
  | i + 1, hi => by
    have hlt : i < l.length := by omega
    obtain ⟨h1, h2, h3⟩ := maxF_facts hf i (by omega)
    have hx := hf l[i] (List.getElem_mem hlt)
    have hm := maxF_take hlt
    rw [dat_nat hlt] at hm
    refine ⟨by omega, by omega, fun x hx2 => ?_⟩
    rw [List.take_succ_eq_append_getElem hlt] at hx2
    rcases List.mem_append.1 hx2 with h | h
    · have := h3 x h; omega
    · rw [List.mem_singleton] at h; subst h; omega
theorem ring_both {l : List Dr} (hR : RightD l) : cycleG 200 (edgesD l) = cycR (edgeE (edgesD l)) (maxF l).toNat ∧ ∀ p ∈ edgesD l, 0 ≤ p.1 ∧ p.1 < ((maxF l).toNat : Int) ∧ 0 ≤ p.2 ∧ p.2 < ((maxF l).toNat : Int) := by
  obtain ⟨h1, h2, h3⟩ := maxF_facts hR.firm l.length (Nat.le_refl _)
  rw [List.take_length] at h1 h2 h3
  have hp : ∀ p ∈ edgesD l, 0 ≤ p.1 ∧ p.1 < ((maxF l).toNat : Int) ∧ 0 ≤ p.2 ∧ p.2 < ((maxF l).toNat : Int) := by
    intro p hp
    obtain ⟨x, hx, rfl⟩ := List.mem_map.1 hp
    have h4 := h3 x hx
    have h5 := hR.firm x hx
    show 0 ≤ x.d ∧ x.d < _ ∧ 0 ≤ x.a ∧ x.a < _
    omega
  exact ⟨cycle_eq (by omega) hp, hp⟩
end Go.Abs

