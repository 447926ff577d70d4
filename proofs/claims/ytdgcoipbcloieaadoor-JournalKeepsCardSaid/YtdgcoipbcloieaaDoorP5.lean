/- x -/
import Derived.Test.YtdgcoipbcloieaaDoorP4
import Derived.Lib.ConvBytes
import Derived.Laws.BytesArg
import Derived.Laws.IdiomStrings
import Derived.Test.YtdgcoipbcloieaaDoorRows
import Derived.Test.YtdgcoipbcloieaaDoorCards
import Derived.Test.YtdgcoipbcloieaaDoorTie
import Derived.ProofKit
import Derived.DataShut
import Derived.LaidMore
import Derived.Lib.LaidTab
import Derived.Lib.LaidU8
import Derived.OpenShut
import Derived.SevenTiedAt
import Derived.Deep.DeepHandedRow
import Derived.Deep.DeepWitnessRowRef
import Derived.Shelf.Vars
set_option linter.unusedVariables false
set_option linter.unusedSimpArgs false
set_option maxRecDepth 10000
namespace Go.Jr
open Go.Wire
theorem dig_len : ∀ (k n : Nat), (dig k n).length = k
  | 0, _ => rfl
  | k + 1, n => by rw [dig, List.length_append, dig_len k]; rfl
theorem hdr_len (n : Nat) : (hdr n).length = 16 := by rw [hdr, List.length_append, dig_len]
theorem dig_all : ∀ (k n : Nat), (dig k n).all isDig = true
  | 0, _ => rfl
  | k + 1, n => by
    rw [dig, List.all_append, dig_all k]
    have h : n % 10 < 10 := by omega
    have e : (UInt8.ofNat (48 + n % 10)).toNat = 48 + n % 10 := dg_toNat h
    simp only [List.all_cons, List.all_nil, Bool.and_true, Bool.true_and, isDig, e, decide_eq_true_eq]
    omega
theorem val_dig : ∀ (k n : Nat), valD (dig k n) = n % 10 ^ k
  | 0, n => by simp [dig, valD]; omega
  | k + 1, n => by
    have ih := val_dig k (n / 10)
    have h : n % 10 < 10 := by omega
    have e : (UInt8.ofNat (48 + n % 10)).toNat = 48 + n % 10 := dg_toNat h
    unfold valD at ih ⊢
    rw [dig, List.foldl_append, ih, List.foldl_cons, List.foldl_nil, e, Nat.pow_succ, Nat.mul_comm (10 ^ k) 10, Nat.mod_mul]
    omega
theorem num_hdr {n : Nat} (h : n < 100000000) : numT (hdr n) = some n := by
  have h1 : (hdr n).take 8 = dig 8 n := by rw [hdr]; exact List.take_left' (dig_len 8 n)
  have h2 : (hdr n).drop 8 = dig 8 n := by rw [hdr]; exact List.drop_left' (dig_len 8 n)
  rw [numT, h1, h2, if_pos ⟨rfl, dig_all 8 n⟩, val_dig, Nat.mod_eq_of_lt (by omega)]
def Holds (secs : List Txt) (c : Txt) : Prop := ∀ j, 16 * j < c.length → ∃ r, secs.getD (2 + j) [] = (c.drop (16 * j)).take 16 ++ r
theorem flat_take : ∀ (L : List Txt) (c : Txt), (∀ s ∈ L, s.length = 16) → (∀ j, 16 * j < c.length → ∃ r, L.getD j [] = (c.drop (16 * j)).take 16 ++ r) → c.length ≤ 16 * L.length → L.flatten.take c.length = c
  | [], c, _, _, h => by
    have : c = [] := List.length_eq_zero_iff.1 (by simpa using h)
    subst this; rfl
  | s :: L, c, hs, hc, h => by
    have h16 := hs s (by simp)
    by_cases h0 : c = []
    · subst h0; rfl
    have hpos : 0 < c.length := List.length_pos_iff.2 h0
    obtain ⟨r, hr⟩ := hc 0 (by omega)
    simp only [List.getD_cons_zero, Nat.mul_zero, List.drop_zero] at hr
    by_cases hle : c.length ≤ 16
    · rw [List.take_of_length_le hle] at hr
      rw [List.flatten_cons, hr, List.append_assoc]
      exact List.take_left' rfl
    · have h2 : r = [] := by
        have := congrArg List.length hr
        rw [h16, List.length_append, List.length_take] at this
        exact List.length_eq_zero_iff.1 (by omega)
      rw [h2, List.append_nil] at hr
      have ih := flat_take L (c.drop 16) (fun x hx => hs x (by simp [hx])) (fun j hj => by
        rw [List.length_drop] at hj
        obtain ⟨r, hr⟩ := hc (j + 1) (by omega)
        refine ⟨r, ?_⟩
        rw [List.drop_drop, show 16 + 16 * j = 16 * (j + 1) by omega]
        simpa using hr) (by rw [List.length_drop]; simp only [List.length_cons] at h; omega)
      rw [List.flatten_cons, List.take_append, List.take_of_length_le (by omega), h16]
      rw [List.length_drop] at ih
      rw [ih, hr, List.take_append_drop]
theorem log_take {secs : List Txt} {c : Txt} (hs : ∀ s ∈ secs, s.length = 16) (h : Holds secs c) (hl : c.length ≤ 16 * (secs.length - 2)) : ((secs.drop 2).flatten).take c.length = c := by
  refine flat_take (secs.drop 2) c (fun s hx => hs s (List.mem_of_mem_drop hx)) (fun j hj => ?_) (by rw [List.length_drop]; exact hl)
  obtain ⟨r, hr⟩ := h j hj
  refine ⟨r, ?_⟩
  rw [← hr]
  simp [List.getD_eq_getElem?_getD]
theorem log_len {secs : List Txt} (hs : ∀ s ∈ secs, s.length = 16) : ((secs.drop 2).flatten).length = 16 * (secs.length - 2) := by
  have key : ∀ L : List Txt, (∀ s ∈ L, s.length = 16) → L.flatten.length = 16 * L.length := by
    intro L
    induction L with
    | nil => intro _; rfl
    | cons s L ih =>
      intro h
      rw [List.flatten_cons, List.length_append, ih (fun x hx => h x (by simp [hx])), h s (by simp), List.length_cons]
      omega
  rw [key _ (fun s hx => hs s (List.mem_of_mem_drop hx)), List.length_drop]
theorem okS2 {s : Txt} (h : s.length ≤ 2000) : okS s := by unfold okS; omega
theorem pz_wN : ∀ (l : List Txt) (k : Nat), (∀ s ∈ l, s.length ≤ 2000) → (wN wS l).length ≤ k → pz k (wN wS l) = some l
  | [], k, _, _ => by cases k <;> rfl
  | s :: l, k, h, hk => by
    have hs := h s (by simp)
    have e : wN wS (s :: l) = wS s ++ wN wS l := by simp [wN]
    have h2 := wS_len (okS2 hs)
    rw [e, List.length_append] at hk
    obtain ⟨c, t, hct⟩ : ∃ c t, wS s ++ wN wS l = c :: t := by
      cases hx : wS s ++ wN wS l with
      | nil =>
        have := congrArg List.length hx
        rw [List.length_append, List.length_nil] at this
        omega
      | cons c t => exact ⟨c, t, rfl⟩
    obtain ⟨k', rfl⟩ : ∃ k', k = k' + 1 := ⟨k - 1, by omega⟩
    rw [e, hct, pz, ← hct, reads_S.back (okS2 hs)]
    simp only [Option.bind_some]
    rw [if_neg (by omega), pz_wN l k' (fun x hx => h x (by simp [hx])) (by omega)]
    rfl
theorem wN_app {α : Type} (w : α → Txt) (a b : List α) : wN w (a ++ b) = wN w a ++ wN w b := by simp [wN]
theorem wN_one {α : Type} (w : α → Txt) (a : α) : wN w [a] = w a := by simp [wN]
structure Inv (d : Disk) (l : List Txt) (c : Nat) : Prop where
  right : Right d
  up : d.down = false
  pe : d.pend = []
  n3 : 3 ≤ d.secs.length
  len : l.length ≤ 500
  each : ∀ s ∈ l, s.length ≤ 2000
  fit : (wN wS l).length ≤ 16 * (d.secs.length - 2)
  holds : Holds d.secs (wN wS l)
  c01 : c = 0 ∨ c = 1
  hd : d.secs.getD c [] = hdr (wN wS l).length
  ot : ∃ x m, x.length = 8 ∧ d.secs.getD (1 - c) [] = x ++ dig 8 m ∧ m ≤ (wN wS l).length ∧ (c = 1 → m < (wN wS l).length)
theorem Inv.small {d : Disk} {l : List Txt} {c : Nat} (h : Inv d l c) : (wN wS l).length ≤ 8160 := by
  have := h.fit
  have := h.right.hi
  omega
theorem num_half {x : Txt} {m k : Nat} (hx : x.length = 8) (hm : m < 100000000) (h : numT (x ++ dig 8 m) = some k) : k = m := by
  have h1 : (x ++ dig 8 m).take 8 = x := List.take_left' hx
  have h2 : (x ++ dig 8 m).drop 8 = dig 8 m := List.drop_left' hx
  rw [numT, h1, h2] at h
  split at h
  · rename_i hc
    rw [hc.1, val_dig, Nat.mod_eq_of_lt (by omega)] at h
    cases h; rfl
  · cases h
theorem Inv.cur {d : Disk} {l : List Txt} {c : Nat} (h : Inv d l c) : curD (numT (d.secs.getD 0 [])) (numT (d.secs.getD 1 [])) = some ((c : Int), (wN wS l).length) := by
  have hs := h.small
  have hn := num_hdr (n := (wN wS l).length) (by omega)
  obtain ⟨x, m0, hx, hso, hm0, hm1⟩ := h.ot
  have ho : ∀ m, numT (d.secs.getD (1 - c) []) = some m → m ≤ (wN wS l).length ∧ (c = 1 → m < (wN wS l).length) := by
    intro m hm
    rw [hso] at hm
    obtain rfl := num_half hx (by omega) hm
    exact ⟨hm0, hm1⟩
  have hd := h.hd
  rcases h.c01 with rfl | rfl
  · rw [hd, hn]
    cases hm : numT (d.secs.getD 1 []) with
    | none => rfl
    | some m =>
      have := (ho m hm).1
      simp only [curD]
      rw [if_neg (by omega)]; rfl
  · rw [hd, hn]
    cases hm : numT (d.secs.getD 0 []) with
    | none => rfl
    | some m =>
      have := (ho m hm).2 rfl
      simp only [curD]
      rw [if_pos (by omega)]; rfl
theorem Inv.ready {d : Disk} {l : List Txt} {c : Nat} (h : Inv d l c) : readyD d = 0 := by simp [readyD, h.up, h.pe]
theorem Inv.read {d : Disk} {l : List Txt} {c : Nat} (h : Inv d l c) : readJ d = (⟨l, wN wS l, c⟩, 0) := by
  have h3 := h.n3
  have h1 := log_take h.right.se h.holds h.fit
  have h2 := log_len h.right.se
  have h4 := h.fit
  have h5 := h.len
  unfold readJ
  rw [if_neg (by simp [h.ready]), if_neg (by omega), h.cur]
  simp only []
  rw [if_neg (by unfold logD; omega), show logD d = (d.secs.drop 2).flatten from rfl, h1, pz_wN l _ h.each (Nat.le_refl _)]
  simp only []
  rw [if_neg (by omega)]
end Go.Jr


set_option maxRecDepth 10000
namespace Go.Jr
open Go.Wire
def pad (s : Txt) : Txt := s ++ zeros (16 - s.length)
theorem pad_len {s : Txt} (h : s.length ≤ 16) : (pad s).length = 16 := by rw [pad, List.length_append, zeros, List.length_replicate]; omega
theorem writeD_ok {d : Disk} {i : Int} {s : Txt} (hu : d.down = false) (h0 : 0 ≤ i) (h1 : i < d.secs.length) (hs : s.length ≤ 16) (hp : d.pend.length < 512) :
    writeD d i s = (⟨d.secs, d.pend ++ [⟨i, pad s⟩], d.left, false⟩, 0) := by
  rw [writeD, if_neg (by simp [hu]), if_neg (by omega), if_neg (by omega), hu]; rfl
theorem perf_len : ∀ (ws : List Wr) (l : List Txt), (perf l ws).length = l.length
  | [], l => rfl
  | w :: r, l => by rw [perf, perf_len r, List.length_set]
theorem perf_se : ∀ (ws : List Wr) (l : List Txt), (∀ s ∈ l, s.length = 16) → (∀ w ∈ ws, w.text.length = 16) → ∀ s ∈ perf l ws, s.length = 16
  | [], l, h, _ => h
  | w :: r, l, h, hw => by
    refine perf_se r _ (fun s hs => ?_) fun x hx => hw x (by simp [hx])
    rcases List.mem_or_eq_of_mem_set hs with h1 | h1
    · exact h s h1
    · rw [h1]; exact hw w (by simp)
theorem set_se {l : List Txt} {i : Nat} {t : Txt} (h : ∀ s ∈ l, s.length = 16) (ht : t.length = 16) : ∀ s ∈ l.set i t, s.length = 16 := by
  intro s hs
  rcases List.mem_or_eq_of_mem_set hs with h1 | h1
  · exact h s h1
  · rw [h1]; exact ht
theorem getD_se {l : List Txt} {i : Nat} (h : ∀ s ∈ l, s.length = 16) (hi : i < l.length) : (l.getD i []).length = 16 := by
  have : l.getD i [] = l[i] := by simp [hi]
  rw [this]; exact h _ (List.getElem_mem hi)
theorem getD_set {l : List Txt} {i j : Nat} {t : Txt} (hi : i < l.length) : (l.set i t).getD j [] = if j = i then t else l.getD j [] := by
  by_cases h : j = i
  · subst h; simp [hi]
  · rw [if_neg h]
    simp only [List.getD_eq_getElem?_getD, List.getElem?_set]
    rw [if_neg (fun e => h e.symm)]
def chunk (all : Txt) (j : Nat) : Txt := (all.drop (16 * j)).take 16
theorem chunk_le (all : Txt) (j : Nat) : (chunk all j).length ≤ 16 := by rw [chunk, List.length_take]; omega
def wsJ (all : Txt) : Nat → Nat → List Wr
  | 0, _ => []
  | k + 1, i => if 16 * i < all.length then ⟨((2 + i : Nat) : Int), pad (chunk all i)⟩ :: wsJ all k (i + 1) else []
theorem wsJ_lt (all : Txt) : ∀ (k i : Nat), (wsJ all k i) = [] ∨ 16 * (i + (wsJ all k i).length) < all.length + 16
  | 0, _ => .inl rfl
  | k + 1, i => by
    rw [wsJ]
    split
    · rename_i h
      right
      rcases wsJ_lt all k (i + 1) with h1 | h1
      · rw [h1]; simp only [List.length_cons, List.length_nil]; omega
      · simp only [List.length_cons]; omega
    · exact .inl rfl
theorem wsJ_ge (all : Txt) : ∀ (k i : Nat), all.length ≤ 16 * (i + k) → all.length ≤ 16 * (i + (wsJ all k i).length)
  | 0, i, h => by simpa [wsJ] using h
  | k + 1, i, h => by
    rw [wsJ]
    split
    · have := wsJ_ge all k (i + 1) (by omega)
      simp only [List.length_cons]; omega
    · simp only [List.length_nil]; omega
theorem wsJ_text (all : Txt) : ∀ (k i : Nat), ∀ w ∈ wsJ all k i, w.text.length = 16
  | 0, _, w, h => by simp [wsJ] at h
  | k + 1, i, w, h => by
    rw [wsJ] at h
    split at h
    · rcases List.mem_cons.1 h with rfl | h
      · exact pad_len (chunk_le _ _)
      · exact wsJ_text all k (i + 1) w h
    · cases h
theorem wsJ_get (all : Txt) : ∀ (k i m : Nat), m < (wsJ all k i).length → (wsJ all k i).getD m default = ⟨((2 + i + m : Nat) : Int), pad (chunk all (i + m))⟩
  | 0, _, m, h => by simp [wsJ] at h
  | k + 1, i, m, h => by
    rw [wsJ] at h ⊢
    split at h
    · rename_i hc
      rw [if_pos hc]
      cases m with
      | zero => rfl
      | succ m =>
        have := wsJ_get all k (i + 1) m (by simpa using h)
        rw [List.getD_cons_succ, this, show 2 + (i + 1) + m = 2 + i + (m + 1) by omega, show i + 1 + m = i + (m + 1) by omega]
    · cases h
theorem perf_ws (all : Txt) : ∀ (k i m : Nat) (l : List Txt), all.length ≤ 16 * (l.length - 2) → ∀ idx, (perf l ((wsJ all k i).take m)).getD idx [] = if 2 + i ≤ idx ∧ idx < 2 + i + ((wsJ all k i).take m).length then pad (chunk all (idx - 2)) else l.getD idx []
  | 0, i, m, l, _, idx => by
    simp only [wsJ, List.take_nil, perf, List.length_nil]
    rw [if_neg (by omega)]
  | k + 1, i, 0, l, _, idx => by
    have e : ((wsJ all (k + 1) i).take 0) = [] := rfl
    rw [e]
    simp only [perf, List.length_nil]
    rw [if_neg (by omega)]
  | k + 1, i, m + 1, l, hl, idx => by
    rw [wsJ]
    split
    · rename_i hc
      have hi : 2 + i < l.length := by omega
      rw [List.take_succ_cons, perf, perf_ws all k (i + 1) m _ (by rw [List.length_set]; exact hl) idx]
      simp only [Int.toNat_natCast, List.length_cons]
      rw [getD_set hi]
      by_cases h1 : idx = 2 + i
      · rw [if_neg (by omega), if_pos h1, if_pos (by omega), h1, Nat.add_sub_cancel_left]
      · rw [if_neg h1]
        by_cases h2 : 2 + (i + 1) ≤ idx ∧ idx < 2 + (i + 1) + (List.take m (wsJ all k (i + 1))).length
        · rw [if_pos h2, if_pos (by omega)]
        · rw [if_neg h2, if_neg (by omega)]
    · simp only [List.take_nil, perf, List.length_nil]
      rw [if_neg (by omega)]
theorem putJ_eq (all : Txt) : ∀ (k i : Nat) (d : Disk), d.down = false → all.length ≤ 16 * (d.secs.length - 2) → d.secs.length ≤ 512 → d.pend.length ≤ i →
    putJ all k i d = ⟨d.secs, d.pend ++ wsJ all k i, d.left, false⟩
  | 0, i, d, hu, _, _, _ => by rw [putJ, wsJ, List.append_nil, ← hu]
  | k + 1, i, d, hu, hl, h5, hp => by
    rw [putJ, wsJ]
    split
    · rename_i hc
      have hw := writeD_ok (i := (2 : Int) + i) (s := (all.drop (16 * i)).take 16) hu (by omega) (by omega) (by rw [List.length_take]; omega) (by omega)
      have ih := putJ_eq all k (i + 1) ⟨d.secs, d.pend ++ [⟨(2 : Int) + i, pad ((all.drop (16 * i)).take 16)⟩], d.left, false⟩ rfl hl h5 (by simp only [List.length_append, List.length_singleton]; omega)
      rw [hw]
      refine ih.trans ?_
      simp only [List.append_assoc, List.singleton_append]
      rfl
    · rw [List.append_nil, ← hu]
theorem torn {a b c x y : Txt} (ha : a = c ++ x) (hb : b = c ++ y) : ∃ z, a.take 8 ++ b.drop 8 = c ++ z := by
  by_cases h : c.length ≤ 8
  · refine ⟨x.take (8 - c.length) ++ b.drop 8, ?_⟩
    rw [ha, List.take_append, List.take_of_length_le h, List.append_assoc]
  · refine ⟨y, ?_⟩
    rw [ha, hb, List.take_append_of_le_length (by omega), List.drop_append_of_le_length (by omega), ← List.append_assoc, List.take_append_drop]
theorem chunk_pre (code x : Txt) (j : Nat) : ∃ z, pad (chunk (code ++ x) j) = chunk code j ++ z := by
  unfold pad chunk
  by_cases h : 16 * j ≤ code.length
  · rw [List.drop_append_of_le_length h, List.take_append]
    exact ⟨_, by rw [List.append_assoc]⟩
  · rw [List.drop_eq_nil_of_le (show code.length ≤ 16 * j by omega), List.take_nil]
    exact ⟨_, by rw [List.nil_append]⟩
theorem chunk_eq (code x : Txt) {j : Nat} (h : 16 * j + 16 ≤ code.length) : chunk (code ++ x) j = chunk code j := by
  unfold chunk
  rw [List.drop_append_of_le_length (by omega), List.take_append_of_le_length (by rw [List.length_drop]; omega)]
theorem holds_full {secs : List Txt} {code x : Txt} (h : Holds secs code) (hl : (code ++ x).length ≤ 16 * (secs.length - 2)) :
    Holds (perf secs (wsJ (code ++ x) (code ++ x).length (code.length / 16))) (code ++ x) := by
  intro j hj
  have hg := wsJ_ge (code ++ x) (code ++ x).length (code.length / 16) (by omega)
  have hp := perf_ws (code ++ x) (code ++ x).length (code.length / 16) (wsJ (code ++ x) (code ++ x).length (code.length / 16)).length secs hl (2 + j)
  rw [List.take_length] at hp
  rw [hp]
  by_cases h1 : code.length / 16 ≤ j
  · rw [if_pos (by omega), Nat.add_sub_cancel_left]
    exact ⟨_, rfl⟩
  · rw [if_neg (by omega)]
    have := chunk_eq code x (j := j) (by omega)
    unfold chunk at this
    rw [this]
    exact h j (by omega)
theorem holds_torn {secs : List Txt} {code x : Txt} (h : Holds secs code) (hl : (code ++ x).length ≤ 16 * (secs.length - 2)) {m : Nat} (hm : m < (wsJ (code ++ x) (code ++ x).length (code.length / 16)).length) :
    Holds ((perf secs ((wsJ (code ++ x) (code ++ x).length (code.length / 16)).take m)).set (2 + code.length / 16 + m) ((pad (chunk (code ++ x) (code.length / 16 + m))).take 8 ++ ((perf secs ((wsJ (code ++ x) (code ++ x).length (code.length / 16)).take m)).getD (2 + code.length / 16 + m) []).drop 8)) code := by
  intro j hj
  have hp := perf_ws (code ++ x) (code ++ x).length (code.length / 16) m secs hl
  have hlt := (wsJ_lt (code ++ x) (code ++ x).length (code.length / 16)).resolve_left (by intro e; rw [e] at hm; cases hm)
  have htl : ((wsJ (code ++ x) (code ++ x).length (code.length / 16)).take m).length = m := by rw [List.length_take]; omega
  have hidx : 2 + code.length / 16 + m < (perf secs ((wsJ (code ++ x) (code ++ x).length (code.length / 16)).take m)).length := by rw [perf_len]; omega
  rw [getD_set hidx, hp (2 + j), hp (2 + code.length / 16 + m), htl, if_neg (show ¬ (2 + code.length / 16 ≤ 2 + code.length / 16 + m ∧ 2 + code.length / 16 + m < 2 + code.length / 16 + m) by omega)]
  obtain ⟨r, hr⟩ := h j hj
  obtain ⟨z, hz⟩ := chunk_pre code x j
  by_cases h1 : 2 + j = 2 + code.length / 16 + m
  · rw [if_pos h1, ← h1, hr, show code.length / 16 + m = j by omega]
    exact torn hz rfl
  · rw [if_neg h1]
    by_cases h2 : 2 + code.length / 16 ≤ 2 + j ∧ 2 + j < 2 + code.length / 16 + m
    · rw [if_pos h2, Nat.add_sub_cancel_left]
      exact ⟨z, hz⟩
    · rw [if_neg h2]
      exact ⟨r, hr⟩
end Go.Jr


set_option maxRecDepth 10000
namespace Go.Jr
open Go.Wire
theorem flush_all {d : Disk} (hu : d.down = false) (hk : ¬ (0 ≤ d.left ∧ d.left < d.pend.length)) : flushD d = (⟨perf d.secs d.pend, [], if 0 ≤ d.left then d.left - d.pend.length else -1, false⟩, 0) := by
  rw [flushD, if_neg (by simp [hu]), if_neg hk]
theorem flush_torn {d : Disk} (hu : d.down = false) (hk : 0 ≤ d.left ∧ d.left < d.pend.length) :
    flushD d = (⟨(perf d.secs (d.pend.take d.left.toNat)).set (d.pend.getD d.left.toNat default).pos.toNat ((d.pend.getD d.left.toNat default).text.take 8 ++ ((perf d.secs (d.pend.take d.left.toNat)).getD (d.pend.getD d.left.toNat default).pos.toNat []).drop 8), [], -1, true⟩, 8) := by
  rw [flushD, if_neg (by simp [hu]), if_pos hk]
theorem pad_hdr (n : Nat) : pad (hdr n) = hdr n := by
  rw [pad, hdr_len]; simp [zeros]
theorem holds_set {secs : List Txt} {c : Txt} {i : Nat} {t : Txt} (h : Holds secs c) (hi : i < 2) (hl : i < secs.length) : Holds (secs.set i t) c := by
  intro j hj
  rw [getD_set hl, if_neg (by omega)]
  exact h j hj
theorem holds_pre {secs : List Txt} {c x : Txt} (h : Holds secs (c ++ x)) : Holds secs c := by
  intro j hj
  obtain ⟨r, hr⟩ := h j (by rw [List.length_append]; omega)
  rw [hr, List.drop_append_of_le_length (by omega), List.take_append]
  exact ⟨_, by rw [List.append_assoc]⟩
theorem holds_nil (secs : List Txt) : Holds secs [] := fun j hj => absurd hj (by simp)
def dataW (l : List Txt) (s : Txt) : List Wr := wsJ (wN wS l ++ wS s) (wN wS l ++ wS s).length ((wN wS l).length / 16)
section
variable {d : Disk} {l : List Txt} {c : Nat} {s : Txt}
theorem perf_low (hf : (wN wS l ++ wS s).length ≤ 16 * (d.secs.length - 2)) {m i : Nat} (hi : i < 2) : (perf d.secs ((dataW l s).take m)).getD i [] = d.secs.getD i [] := by
  rw [dataW, perf_ws _ _ _ m _ hf i, if_neg (by omega)]
theorem append_start (h : Inv d l c) (hs : s.length ≤ 2000) (hl : l.length < 500) (hf : (wN wS l ++ wS s).length ≤ 16 * (d.secs.length - 2)) :
    appendJ d s = if (flushD ⟨d.secs, dataW l s, d.left, false⟩).2 ≠ 0 then flushD ⟨d.secs, dataW l s, d.left, false⟩
      else flushD (writeD (flushD ⟨d.secs, dataW l s, d.left, false⟩).1 (1 - (c : Int)) (hdr (wN wS l ++ wS s).length)).1 := by
  have hp := putJ_eq (wN wS l ++ wS s) (wN wS l ++ wS s).length ((wN wS l).length / 16) d h.up hf h.right.hi (by rw [h.pe]; simp)
  rw [h.pe, List.nil_append] at hp
  unfold appendJ
  rw [h.read]
  simp only [ne_eq, not_true_eq_false, if_false]
  rw [if_neg (by omega), if_neg (by omega), hp]
  rfl
theorem all_eq (l : List Txt) (s : Txt) : wN wS (l ++ [s]) = wN wS l ++ wS s := by rw [wN_app, wN_one]
theorem append_ok (h : Inv d l c) (hs : s.length ≤ 2000) (hl : l.length < 500) (hf : (wN wS l ++ wS s).length ≤ 16 * (d.secs.length - 2)) (hk : d.left = -1 ∨ ((dataW l s).length : Int) + 1 ≤ d.left) :
    ∃ d', appendJ d s = (d', 0) ∧ Inv d' (l ++ [s]) (1 - c) ∧ d'.secs.length = d.secs.length ∧ (d.left = -1 → d'.left = -1) ∧ d'.secs.getD c [] = hdr (wN wS l).length := by
  have h3 := h.n3
  have hcc : c < 2 := by rcases h.c01 with rfl | rfl <;> omega
  have hw := flush_all (d := ⟨d.secs, dataW l s, d.left, false⟩) rfl (by simp only []; omega)
  have h2 := wS_len (okS2 hs)
  rw [append_start h hs hl hf, hw]
  simp only [ne_eq, not_true_eq_false, if_false]
  have hpl : (perf d.secs (dataW l s)).length = d.secs.length := perf_len _ _
  have hci : (1 : Int) - (c : Int) = ((1 - c : Nat) : Int) := by omega
  rw [writeD_ok (s := hdr (wN wS l ++ wS s).length) rfl (by omega) (by simp only [hpl]; omega) (by rw [hdr_len]; omega) (by simp), pad_hdr]
  simp only [List.nil_append]
  rw [flush_all rfl (by simp only [List.length_singleton]; split <;> omega)]
  simp only [perf, hci, Int.toNat_natCast]
  have hhold := holds_full h.holds hf
  have hse := perf_se (dataW l s) d.secs h.right.se (wsJ_text _ _ _)
  have hlow : ∀ i, i < 2 → (perf d.secs (dataW l s)).getD i [] = d.secs.getD i [] := by
    intro i hi
    have := perf_low (d := d) (l := l) (s := s) hf (m := (dataW l s).length) hi
    rwa [List.take_length] at this
  have hi1 : 1 - c < (perf d.secs (dataW l s)).length := by omega
  have hr := h.right
  refine ⟨_, rfl, ?_, by simp [hpl], by intro e; simp [e], ?_⟩
  · refine ⟨⟨by simp only [List.length_set, hpl]; exact hr.lo, by simp only [List.length_set, hpl]; exact hr.hi, by simp, ?_, ?_, by simp, set_se hse (hdr_len _), by simp⟩, rfl, rfl, by simp only [List.length_set, hpl]; exact h3, by simp; omega, ?_, ?_, ?_, by omega, ?_, ?_⟩
    · simp only [List.length_singleton]; split <;> (try split) <;> omega
    · have := hr.l1
      simp only [List.length_singleton]; split <;> (try split) <;> omega
    · intro x hx
      rcases List.mem_append.1 hx with hx | hx
      · exact h.each x hx
      · rw [List.mem_singleton.1 hx]; exact hs
    · simp only [List.length_set, hpl, all_eq]; exact hf
    · rw [all_eq]
      exact holds_set hhold (by omega) hi1
    · simp only [all_eq]
      rw [getD_set hi1, if_pos rfl]
    · refine ⟨dig 8 (wN wS l).length, (wN wS l).length, dig_len _ _, ?_, ?_, ?_⟩
      · simp only []
        rw [getD_set hi1, if_neg (by omega), show 1 - (1 - c) = c by omega, hlow c hcc, h.hd]; rfl
      · rw [all_eq, List.length_append]; omega
      · intro _; rw [all_eq, List.length_append]; omega
  · simp only []
    rw [getD_set hi1, if_neg (by omega), hlow c hcc, h.hd]
theorem append_cut (h : Inv d l c) (hs : s.length ≤ 2000) (hl : l.length < 500) (hf : (wN wS l ++ wS s).length ≤ 16 * (d.secs.length - 2)) (h0 : 0 ≤ d.left) (h1 : d.left ≤ (dataW l s).length) :
    ∃ secs, appendJ d s = (⟨secs, [], -1, true⟩, 8) ∧ Inv ⟨secs, [], -1, false⟩ l c ∧ secs.length = d.secs.length := by
  have h3 := h.n3
  have hcc : c < 2 := by rcases h.c01 with rfl | rfl <;> omega
  have hr := h.right
  have hci : (1 : Int) - (c : Int) = ((1 - c : Nat) : Int) := by omega
  have hse : ∀ m, ∀ s' ∈ perf d.secs ((dataW l s).take m), s'.length = 16 := fun m => perf_se _ d.secs hr.se fun w hw => wsJ_text _ _ _ w (List.mem_of_mem_take hw)
  have hpl : ∀ W, (perf d.secs W).length = d.secs.length := fun W => perf_len _ _
  obtain ⟨x, m0, hx, hso, hm0, hm1⟩ := h.ot
  have mk : ∀ secs : List Txt, secs.length = d.secs.length → (∀ s' ∈ secs, s'.length = 16) → Holds secs (wN wS l) → secs.getD c [] = d.secs.getD c [] → (∃ y, y.length = 8 ∧ secs.getD (1 - c) [] = y ++ dig 8 m0) → Inv ⟨secs, [], -1, false⟩ l c := by
    rintro secs g1 g2 g3 g4 ⟨y, g5, g6⟩
    refine ⟨⟨by simp only [g1]; exact hr.lo, by simp only [g1]; exact hr.hi, by simp, by simp, by simp, by simp, g2, by simp⟩, rfl, rfl, by simp only [g1]; exact h3, h.len, h.each, by simp only [g1]; exact h.fit, g3, h.c01, by rw [g4]; exact h.hd, y, m0, g5, g6, hm0, hm1⟩
  rw [append_start h hs hl hf]
  by_cases hlt : d.left < (dataW l s).length
  · have hk : d.left.toNat < (dataW l s).length := by omega
    rw [flush_torn (d := ⟨d.secs, dataW l s, d.left, false⟩) rfl ⟨h0, hlt⟩]
    simp only [ne_eq]
    rw [if_pos (by decide)]
    have hg : (dataW l s).getD d.left.toNat default = _ := wsJ_get (wN wS l ++ wS s) (wN wS l ++ wS s).length ((wN wS l).length / 16) d.left.toNat hk
    rw [hg]
    simp only [Int.toNat_natCast]
    have hlt2 := (wsJ_lt (wN wS l ++ wS s) (wN wS l ++ wS s).length ((wN wS l).length / 16)).resolve_left (by intro e; unfold dataW at hk; rw [e] at hk; cases hk)
    unfold dataW at hk
    have hi : 2 + (wN wS l).length / 16 + d.left.toNat < d.secs.length := by omega
    refine ⟨_, rfl, mk _ (by rw [List.length_set, hpl]) ?_ (holds_torn h.holds hf hk) ?_ ⟨x, hx, ?_⟩, by rw [List.length_set, hpl]⟩
    · refine set_se (hse _) ?_
      have e1 := pad_len (chunk_le (wN wS l ++ wS s) ((wN wS l).length / 16 + d.left.toNat))
      have e2 := getD_se (i := 2 + (wN wS l).length / 16 + d.left.toNat) (hse d.left.toNat) (by rw [hpl]; exact hi)
      rw [List.length_append, List.length_take, List.length_drop, e1, e2]; rfl
    · rw [getD_set (by rw [hpl]; exact hi), if_neg (by omega)]
      exact perf_low hf hcc
    · rw [getD_set (by rw [hpl]; exact hi), if_neg (by omega)]
      exact (perf_low hf (by omega)).trans hso
  · have hw := flush_all (d := ⟨d.secs, dataW l s, d.left, false⟩) rfl (by simp only []; omega)
    rw [hw]
    simp only [ne_eq, not_true_eq_false, if_false]
    rw [writeD_ok (s := hdr (wN wS l ++ wS s).length) rfl (by omega) (by simp only [hpl]; omega) (by rw [hdr_len]; omega) (by simp), pad_hdr]
    simp only [List.nil_append]
    have hl0 : (if 0 ≤ d.left then d.left - ((dataW l s).length : Int) else -1) = 0 := by rw [if_pos h0]; omega
    rw [hl0, flush_torn rfl (by simp)]
    simp only [Int.toNat_zero, List.take_zero, perf, List.getD_cons_zero, hci, Int.toNat_natCast]
    have hlow : ∀ i, i < 2 → (perf d.secs (dataW l s)).getD i [] = d.secs.getD i [] := by
      intro i hi
      have := perf_low (d := d) (l := l) (s := s) hf (m := (dataW l s).length) hi
      rwa [List.take_length] at this
    have hsa := hse (dataW l s).length
    rw [List.take_length] at hsa
    have hi1 : 1 - c < (perf d.secs (dataW l s)).length := by rw [hpl]; omega
    have e8 : (hdr (wN wS l ++ wS s).length).take 8 = dig 8 (wN wS l ++ wS s).length := by rw [hdr]; exact List.take_left' (dig_len _ _)
    have d8 : ((perf d.secs (dataW l s)).getD (1 - c) []).drop 8 = dig 8 m0 := by rw [hlow _ (by omega), hso]; exact List.drop_left' hx
    rw [e8, d8]
    refine ⟨_, rfl, mk _ (by rw [List.length_set, hpl]) ?_ (holds_set (holds_pre (holds_full h.holds hf)) (by omega) hi1) ?_ ⟨dig 8 (wN wS l ++ wS s).length, dig_len _ _, ?_⟩, by rw [List.length_set, hpl]⟩
    · exact set_se hsa (by rw [List.length_append, dig_len, dig_len])
    · rw [getD_set hi1, if_neg (by omega)]
      exact hlow c hcc
    · rw [getD_set hi1, if_pos rfl]
end
theorem format_ok {n : Nat} (h : 3 ≤ n) (hn : n ≤ 512) : ∃ d, formatJ (newD n) = (d, 0) ∧ Inv d [] 0 ∧ d.secs.length = n ∧ d.left = -1 ∧ d.secs.getD 1 [] = hdr 0 := by
  have hl : (newD n).secs.length = n := by simp [newD]
  have hr : readyD (newD n) = 0 := rfl
  have hz : ∀ s ∈ (newD n).secs, s.length = 16 := by
    intro s hs
    simp only [newD, List.mem_replicate] at hs
    rw [hs.2, zeros, List.length_replicate]
  unfold formatJ
  rw [if_neg (by simp [hr]), if_neg (by omega)]
  rw [writeD_ok (d := newD n) (i := 0) (s := hdr 0) rfl (by omega) (by omega) (by rw [hdr_len]; omega) (by simp [newD])]
  simp only []
  rw [writeD_ok (s := hdr 0) rfl (by omega) (by simp only [hl]; omega) (by rw [hdr_len]; omega) (by simp [newD])]
  simp only [pad_hdr]
  rw [flush_all rfl (by simp [newD])]
  have e : perf (newD n).secs ((newD n).pend ++ [⟨0, hdr 0⟩] ++ [⟨1, hdr 0⟩]) = ((newD n).secs.set 0 (hdr 0)).set 1 (hdr 0) := rfl
  rw [e]
  have hl2 : (((newD n).secs.set 0 (hdr 0)).set 1 (hdr 0)).length = n := by rw [List.length_set, List.length_set, hl]
  have g1 : (((newD n).secs.set 0 (hdr 0)).set 1 (hdr 0)).getD 1 [] = hdr 0 := by rw [getD_set (by rw [List.length_set, hl]; omega), if_pos rfl]
  have g0 : (((newD n).secs.set 0 (hdr 0)).set 1 (hdr 0)).getD 0 [] = hdr 0 := by rw [getD_set (by rw [List.length_set, hl]; omega), if_neg (by omega), getD_set (by omega), if_pos rfl]
  refine ⟨_, rfl, ⟨⟨by simp only [hl2]; omega, by simp only [hl2]; omega, by simp, by simp [newD], by simp [newD], by simp, set_se (set_se hz (hdr_len _)) (hdr_len _), by simp⟩, rfl, rfl, by simp only [hl2]; omega, by simp, by simp, by simp [wN], holds_nil _, .inl rfl, g0, dig 8 0, 0, dig_len _ _, g1, by simp, by simp⟩, hl2, by simp [newD], g1⟩
end Go.Jr


set_option maxRecDepth 100000
set_option maxHeartbeats 4000000
namespace Go.Abs
open Go.Proofs Go.Wire Go.RowKit Go.Jr
theorem tab_two {n τ : Nat} {a b x : O} (h : tabOf n [a, b] τ = some x) : (τ = n ∧ x = a) ∨ (τ = n + 1 ∧ x = b) := by
  unfold tabOf at h
  split at h
  · rename_i hle
    obtain ⟨k, rfl⟩ : ∃ k, τ = n + k := ⟨τ - n, by omega⟩
    rw [Nat.add_sub_cancel_left] at h
    match k, h with
    | 0, h => simp at h; exact .inl ⟨rfl, h.symm⟩
    | 1, h => simp at h; exact .inr ⟨rfl, h.symm⟩
    | k + 2, h => simp at h
  · cases h
theorem tab_two' {n τ : Nat} {a b : O} (h : tabOf n [a, b] τ ≠ none) : τ = n ∨ τ = n + 1 := by
  cases e : tabOf n [a, b] τ with
  | none => exact absurd e h
  | some x => exact (tab_two e).imp And.left And.left
theorem tab_two0 {n : Nat} {a b : O} : tabOf n [a, b] n = some a := by simp [tabOf]
theorem tab_two1 {n : Nat} {a b : O} : tabOf n [a, b] (n + 1) = some b := by simp [tabOf]
structure Row (w w' : World) (e sz : Nat) (rows : List (List C)) (g : Nat) (cap : Nat) : Prop where
  fresh : w.heap.size ≤ g
  ex : ∃ cur, w'.heap[g]? = some (.cells cur e (0, 0)) ∧ cur.size = cap * sz ∧ ∀ (i j : Nat) r c, rows[i]? = some r → r[j]? = some c → ∃ v, cur[i * sz + j]? = some v ∧ ∀ Z, PRep w' Z c v
  pos : 0 < sz
  le : rows.length ≤ cap
  max : cap ≤ maxLen
  len : ∀ r, r ∈ rows → r.length = sz
theorem Row.orep {w w' : World} {e sz : Nat} {rows : List (List C)} {g cap : Nat} (h : Row w w' e sz rows g cap) {Z : Bk → Prop} {κ : Kap} {o : Nat → Option O} {τ : Nat} (hκ : κ τ = some g) : ORep w' Z κ o τ (.arr e sz none rows) := by
  obtain ⟨cur, h1, h2, h3⟩ := h.ex
  exact .inr ⟨g, cur, cap, hκ, h1, h.pos, h2, h.le, h.max, by simp, h.len, fun i j r c hr hc => by obtain ⟨v, hv, hp⟩ := h3 i j r c hr hc; exact ⟨v, hv, hp _⟩⟩
theorem rrep2 {w w' : World} {Z : Bk → Prop} {e1 sz1 e2 sz2 : Nat} {rows1 rows2 : List (List C)} {g1 cap1 : Nat} {v2 v3 v4 : Value} {c3 c4 : C} (hG : GlobB (base w)) (hk : Kept w w')
    (h1 : Row w w' e1 sz1 rows1 g1 cap1) (h2 : (v2 = .slice none 0 0 ∧ rows2 = []) ∨ ∃ g2 cap2, v2 = .slice (some ⟨g2, 0, none⟩) rows2.length cap2 ∧ g2 ≠ g1 ∧ Row w w' e2 sz2 rows2 g2 cap2)
    (h3 : v3.oneCell' = true ∧ ∀ Z, PRep w' Z c3 v3) (h4 : v4.oneCell' = true ∧ ∀ Z, PRep w' Z c4 v4) :
    RRep (base w) Z (.agk [.newl e1 sz1 none rows1, .newl e2 sz2 none rows2, .c c3, .c c4]) (.agg #[.slice (some ⟨g1, 0, none⟩) rows1.length cap1, v2, v3, v4]) w' := by
  intro n
  obtain ⟨k2, hk2, hk2'⟩ : ∃ k2 : Option Nat, ((k2 = none ∧ v2 = .slice none 0 0 ∧ rows2 = []) ∨ ∃ g2 cap2, k2 = some g2 ∧ v2 = .slice (some ⟨g2, 0, none⟩) rows2.length cap2 ∧ g2 ≠ g1 ∧ Row w w' e2 sz2 rows2 g2 cap2) ∧ (∀ b, k2 = some b → w.heap.size ≤ b ∧ b < w'.heap.size ∧ b ≠ g1) := by
    rcases h2 with ⟨a, b⟩ | ⟨g2, cap2, a, b, c⟩
    · exact ⟨none, .inl ⟨rfl, a, b⟩, fun _ h => by cases h⟩
    · obtain ⟨cur, hc, _⟩ := c.ex
      exact ⟨some g2, .inr ⟨g2, cap2, rfl, a, b, c⟩, fun _ h => by cases h; exact ⟨c.fresh, heap_lt hc, b⟩⟩
  obtain ⟨κ, hκ0, hκ1⟩ : ∃ κ : Kap, κ n = some g1 ∧ κ (n + 1) = k2 := ⟨fun τ => if τ = n then some g1 else if τ = n + 1 then k2 else none, if_pos rfl, by simp⟩
  refine ⟨κ, hk, hG, fun τ b ho h => ?_, fun τ τ' b ho ho' h h' => ?_, fun τ ob h => ?_, fun s => ?_⟩
  · rcases tab_two' ho with rfl | rfl
    · rw [hκ0] at h; cases h
      obtain ⟨cur, hc, _⟩ := h1.ex
      exact ⟨Nat.not_lt.2 h1.fresh, heap_lt hc⟩
    · rw [hκ1] at h
      have := hk2' b h
      exact ⟨Nat.not_lt.2 this.1, this.2.1⟩
  · rcases tab_two' ho with rfl | rfl <;> rcases tab_two' ho' with rfl | rfl
    · rfl
    · rw [hκ0] at h; rw [hκ1] at h'; cases h
      exact absurd rfl (hk2' _ h').2.2
    · rw [hκ1] at h; rw [hκ0] at h'; cases h'
      exact absurd rfl (hk2' _ h).2.2
    · rfl
  · rcases tab_two h with ⟨rfl, rfl⟩ | ⟨rfl, rfl⟩
    · exact h1.orep hκ0
    · rcases hk2 with ⟨a, b, c⟩ | ⟨g2, cap2, a, b, c, d⟩
      · exact .inl ⟨hκ1.trans a, c, by simp⟩
      · exact d.orep (hκ1.trans a)
  · by_cases hs : s = 0
    · subst hs
      simp only [if_true]
      refine ⟨_, rfl, rfl, fun j k v hk hv => ?_⟩
      match j, hk, hv with
      | 0, hk, hv =>
        simp at hv; subst hv
        cases hk
        refine ⟨rfl, fun e' sz' nl' rows' h => ?_⟩
        rw [show (V.agk [.newl e1 sz1 none rows1, .newl e2 sz2 none rows2, .c c3, .c c4]).reg n = (.agk [.own n, .own (n + 1), .c c3, .c c4], [.arr e1 sz1 none rows1, .arr e2 sz2 none rows2]) from rfl] at h
        rw [tab_two0] at h; cases h
        obtain ⟨cur, hc, hz, _⟩ := h1.ex
        exact .inr ⟨g1, cur, cap1, hκ0, hc, hz, rfl⟩
      | 1, hk, hv =>
        simp at hv; subst hv
        cases hk
        refine ⟨by rcases hk2 with ⟨_, rfl, _⟩ | ⟨_, _, _, rfl, _⟩ <;> rfl, fun e' sz' nl' rows' h => ?_⟩
        rw [show (V.agk [.newl e1 sz1 none rows1, .newl e2 sz2 none rows2, .c c3, .c c4]).reg n = (.agk [.own n, .own (n + 1), .c c3, .c c4], [.arr e1 sz1 none rows1, .arr e2 sz2 none rows2]) from rfl] at h
        rw [tab_two1] at h; cases h
        rcases hk2 with ⟨a, b, c⟩ | ⟨g2, cap2, a, b, c, d⟩
        · exact .inl ⟨hκ1.trans a, b⟩
        · obtain ⟨cur, hc, hz, _⟩ := d.ex
          exact .inr ⟨g2, cur, cap2, hκ1.trans a, hc, hz, b⟩
      | 2, hk, hv => simp at hv; subst hv; cases hk; exact ⟨h3.1, h3.2 _⟩
      | 3, hk, hv => simp at hv; subst hv; cases hk; exact ⟨h4.1, h4.2 _⟩
      | j + 4, hk, hv => simp at hv
    · simp only [hs, if_false]; trivial
end Go.Abs


set_option maxRecDepth 100000
set_option maxHeartbeats 4000000
namespace Go.Abs
open Go.Proofs Go.Wire Go.RowKit Go.Jr
def C.sc : C → Bool
  | .int _ _ => true
  | .bool _ => true
  | .str _ => true
  | _ => false
def valC (c : C) : Value := valOf (.k (.c c))
theorem sc_val {w : World} {Z : Bk → Prop} {c : C} {v : Value} (hc : c.sc = true) (h : PRep w Z c v) : v = valC c := by
  cases h <;> first | rfl | cases hc
theorem sc_rep {w : World} {Z : Bk → Prop} {c : C} (hc : c.sc = true) : PRep w Z c (valC c) := by
  cases c <;> first | exact .int _ _ | exact .bool _ | exact .str _ | cases hc
theorem sc_one {c : C} (hc : c.sc = true) : (valC c).oneCell' = true := (sc_rep (w := default) (Z := fun _ => False) hc).oneCell
theorem flat_get {α : Type} {sz : Nat} (h0 : 0 < sz) : ∀ (rows : List (List α)) (k : Nat) (c : α), (∀ r, r ∈ rows → r.length = sz) → rows.flatten[k]? = some c → ∃ i j r, rows[i]? = some r ∧ r[j]? = some c ∧ k = i * sz + j
  | [], k, c, _, h => by simp at h
  | r :: rows, k, c, hl, h => by
    have hr := hl r List.mem_cons_self
    rw [List.flatten_cons] at h
    by_cases hk : k < sz
    · rw [List.getElem?_append_left (by omega)] at h
      exact ⟨0, k, r, rfl, h, by omega⟩
    · rw [List.getElem?_append_right (by omega)] at h
      obtain ⟨i, j, r', h1, h2, h3⟩ := flat_get h0 rows (k - r.length) c (fun r' hr' => hl r' (List.mem_cons_of_mem _ hr')) h
      exact ⟨i + 1, j, r', h1, h2, by rw [Nat.add_mul]; omega⟩
theorem flat_at {α : Type} {sz : Nat} : ∀ (rows : List (List α)) (i j : Nat) (r : List α) (c : α), (∀ r, r ∈ rows → r.length = sz) → rows[i]? = some r → r[j]? = some c → rows.flatten[i * sz + j]? = some c
  | [], i, j, r, c, _, h, _ => by simp at h
  | r0 :: rows, 0, j, r, c, hl, h, hc => by
    cases h
    have hj := (List.getElem?_eq_some_iff.1 hc).1
    rw [List.flatten_cons, Nat.zero_mul, Nat.zero_add, List.getElem?_append_left hj]
    exact hc
  | r0 :: rows, i + 1, j, r, c, hl, h, hc => by
    have hr := hl r0 List.mem_cons_self
    rw [List.flatten_cons, Nat.add_mul, List.getElem?_append_right (by omega), show i * sz + 1 * sz + j - r0.length = i * sz + j by omega]
    exact flat_at rows i j r c (fun r' hr' => hl r' (List.mem_cons_of_mem _ hr')) h hc
theorem flat_len {α : Type} {sz : Nat} : ∀ (rows : List (List α)), (∀ r, r ∈ rows → r.length = sz) → rows.flatten.length = rows.length * sz
  | [], _ => by simp
  | r0 :: rows, hl => by
    rw [List.flatten_cons, List.length_append, flat_len rows fun r' hr' => hl r' (List.mem_cons_of_mem _ hr'), hl r0 List.mem_cons_self, List.length_cons, Nat.add_mul]
    omega
def cellsC (rows : List (List C)) : List Value := rows.flatten.map valC
structure Plain (sz : Nat) (rows : List (List C)) : Prop where
  pos : 0 < sz
  len : ∀ r, r ∈ rows → r.length = sz
  sc : ∀ r, r ∈ rows → ∀ c, c ∈ r → c.sc = true
theorem Plain.clen {sz : Nat} {rows : List (List C)} (h : Plain sz rows) : (cellsC rows).length = rows.length * sz := by
  rw [cellsC, List.length_map, flat_len rows h.len]
theorem Plain.one {sz : Nat} {rows : List (List C)} (h : Plain sz rows) : ∀ u ∈ cellsC rows, u.oneCell' = true := by
  intro u hu
  obtain ⟨c, hc, rfl⟩ := List.mem_map.1 hu
  obtain ⟨r, hr, hcr⟩ := List.mem_flatten.1 hc
  exact sc_one (h.sc r hr c hcr)
theorem Plain.at {sz : Nat} {rows : List (List C)} (h : Plain sz rows) {i j : Nat} {r : List C} {c : C} (hr : rows[i]? = some r) (hc : r[j]? = some c) : (cellsC rows)[i * sz + j]? = some (valC c) ∧ c.sc = true := by
  refine ⟨?_, h.sc r (List.mem_of_getElem? hr) c (List.mem_of_getElem? hc)⟩
  rw [cellsC, List.getElem?_map, flat_at rows i j r c h.len hr hc]; rfl
theorem Plain.slice {sz : Nat} {rows : List (List C)} (h : Plain sz rows) {w : World} {Z : Bk → Prop} {v : Value} (hv : PRep w Z (lstC sz rows) v) :
    ∃ p cap, v = .slice p rows.length cap ∧ (0 < rows.length → ∃ b o, p = some ⟨b, o, none⟩ ∧ ∀ j u, (cellsC rows)[j]? = some u → w.cell? ⟨b, o + j, none⟩ = some u) ∧ (0 < rows.length → rows.length ≤ cap) := by
  unfold lstC at hv
  by_cases h0 : rows = []
  · subst h0
    have h' : PRep w Z (.list 0 none []) v := hv
    generalize hc : C.list 0 none [] = c at h'
    cases h' with
    | nil => exact ⟨none, 0, rfl, fun hk => absurd hk (by simp), fun hk => absurd hk (by simp)⟩
    | emp _ _ a => exact ⟨some a, 0, rfl, fun hk => absurd hk (by simp), fun hk => absurd hk (by simp)⟩
    | list b o cap sz nl rws val =>
      injection hc with _ _ hr
      subst hr
      exact ⟨some ⟨b, o, none⟩, cap, rfl, fun hk => absurd hk (by simp), fun hk => absurd hk (by simp)⟩
    | _ => cases hc
  · have e : (if rows.isEmpty = true then 0 else sz) = sz := by cases rows <;> simp_all
    rw [e] at hv
    generalize hc : C.list sz none rows = c at hv
    cases hv with
    | nil => injection hc with _ _ hr; exact absurd hr h0
    | emp => injection hc with _ _ hr; exact absurd hr h0
    | list b o cap sz nl rws val h1 h2 h3 h4 h5 h6 h7 =>
      injection hc with hs _ hr
      subst hs hr
      refine ⟨some ⟨b, o, none⟩, cap, rfl, fun _ => ⟨b, o, rfl, fun k u hu => ?_⟩, fun _ => h2⟩
      rw [cellsC, List.getElem?_map] at hu
      obtain ⟨c, hc, rfl⟩ := Option.map_eq_some_iff.1 hu
      obtain ⟨i, j, r, g1, g2, rfl⟩ := flat_get h.pos rows k c h.len hc
      rw [h6 i j r c g1 g2, sc_val (h.sc r (List.mem_of_getElem? g1) c (List.mem_of_getElem? g2)) (h7 i j r c g1 g2)]
    | _ => cases hc
theorem plain_strs (l : List Txt) : Plain 1 (strs l) := by
  refine ⟨by decide, fun r hr => ?_, fun r hr c hc => ?_⟩ <;> obtain ⟨s, _, rfl⟩ := List.mem_map.1 hr
  · rfl
  · simp [encS] at hc; subst hc; rfl
def encW (w : Wr) : List C := [.int .i64 w.pos, .str w.text]
def wrs (l : List Wr) : List (List C) := l.map encW
@[simp] theorem wrs_len (l : List Wr) : (wrs l).length = l.length := by simp [wrs]
theorem plain_wrs (l : List Wr) : Plain 2 (wrs l) := by
  refine ⟨by decide, fun r hr => ?_, fun r hr c hc => ?_⟩ <;> obtain ⟨s, _, rfl⟩ := List.mem_map.1 hr
  · rfl
  · simp [encW] at hc; rcases hc with rfl | rfl <;> rfl
def encD (d : Disk) : List C := [lstC 1 (strs d.secs), lstC 2 (wrs d.pend), .int .i64 d.left, .bool d.down]
abbrev dV (d : Disk) : V := .agg (encD d)
abbrev freshV (d : Disk) : V := .agk [.newl 9 1 none (strs d.secs), .newl 67 2 none (wrs d.pend), .c (.int .i64 d.left), .c (.bool d.down)]
theorem row_of_owns {w w' : World} {e sz n B : Nat} {rows : List (List C)} {v : Value} {g : Nat} (h : Plain sz rows) (hw : w'.ownsRow B e sz v n (cellsC rows)) (hn : n = rows.length) (hB : w.heap.size ≤ B) (hg : g < B) :
    (v = .slice none 0 0 ∧ rows = []) ∨ ∃ g2 cap2, v = .slice (some ⟨g2, 0, none⟩) rows.length cap2 ∧ g2 ≠ g ∧ Row w w' e sz rows g2 cap2 := by
  subst hn
  rcases hw.2 with ⟨h1, h2⟩ | ⟨g2, cap, cur, h1, h2, h3, h4, h5, h6, h7⟩
  · exact .inl ⟨h1, List.eq_nil_of_length_eq_zero h2⟩
  · refine .inr ⟨g2, cap, h1, by omega, by omega, ⟨cur, h3, h6, fun i j r c hr hc => ⟨valC c, ?_, fun Z => sc_rep (h.at hr hc).2⟩⟩, h.pos, h4, h5, h.len⟩
    have := (h.at hr hc).1
    rw [← h7, List.getElem?_take] at this
    split at this
    · simpa using this
    · cases this
theorem s36 (d : Disk) (h : Right d) : Spec Tryd.prog 36 [dV d] (fun r => r = freshV d) := by
  refine ⟨callable_at (by kernel_rfl), fun w Z vs hG hz ha => ?_⟩
  obtain ⟨l⟩ := vs
  match l, ha with
  | [], ha => exact absurd ha.1 (by simp)
  | _ :: _ :: _, ha => exact absurd ha.1 (by simp)
  | [v], ha =>
    obtain ⟨cs, rfl, hl, hr⟩ := (ha.2 0 _ v rfl rfl).2
    obtain ⟨l⟩ := cs
    match l, hl with
    | [x1, x2, x3, x4], _ =>
      obtain ⟨p1, k1, rfl, q1, m1⟩ := (plain_strs d.secs).slice (hr 0 _ x1 rfl rfl)
      obtain ⟨p2, k2, rfl, q2, m2⟩ := (plain_wrs d.pend).slice (hr 1 _ x2 rfl rfl)
      have e3 := prep_int (hr 2 _ x3 rfl rfl)
      have e4 := prep_bool (hr 3 _ x4 rfl rfl)
      subst e3 e4
      have h0 : 0 < (strs d.secs).length := by rw [strs_len]; exact h.lo
      obtain ⟨b1, o1, rfl, g1⟩ := q1 h0
      refine (fresh36 b1 o1 (strs d.secs).length k1 (cellsC (strs d.secs)) p2 (wrs d.pend).length k2 (cellsC (wrs d.pend)) d.left d.down w (by rw [strs_len]; exact h.hi) (by rw [(plain_strs _).clen]; omega) (plain_strs _).one h0 g1 (plain_wrs _).clen (by rw [wrs_len]; exact h.pe) q2 (plain_wrs _).one).mono ?_
      rintro e w' ⟨g, v', rfl, hg, hh, ⟨B, ho, hgB⟩, hb⟩
      refine ⟨_, _, rfl, rfl, fun τ => rfl, ?_⟩
      have hk := kept_of_below hb
      refine rrep2 hG hk ⟨hg, ⟨_, hh, ?_, fun i j r c hr hc => ⟨valC c, ?_, fun Z => sc_rep ((plain_strs _).at hr hc).2⟩⟩, by decide, Nat.le_refl _, ?_, (plain_strs _).len⟩ (row_of_owns (plain_wrs _) ho rfl (by omega) hgB) ⟨rfl, fun Z => .int _ _⟩ ⟨rfl, fun Z => .bool _⟩
      · rw [List.size_toArray, (plain_strs _).clen]
      · rw [List.getElem?_toArray]; exact ((plain_strs _).at hr hc).1
      · have := h.hi; rw [strs_len]; unfold maxLen; omega
end Go.Abs


set_option maxRecDepth 100000
set_option maxHeartbeats 8000000
namespace Go.Abs
open Go.Proofs Go.Wire Go.RowKit Go.Jr
theorem dig_cons : ∀ (k n : Nat), dig (k + 1) n = UInt8.ofNat (48 + n / 10 ^ k % 10) :: dig k n
  | 0, n => by simp [dig]
  | k + 1, n => by
    rw [dig, dig_cons k (n / 10), Nat.div_div_eq_div_mul, ← Nat.pow_succ', dig, List.cons_append]
def stH (n k : Nat) : Txt := List.replicate (8 - k) 48 ++ dig k n
theorem stH_len {n k : Nat} (h : k ≤ 8) : (stH n k).length = 8 := by rw [stH, List.length_append, List.length_replicate, dig_len]; omega
theorem stH_step {n k : Nat} (h : k < 8) : stH n (k + 1) = (stH n k).set (7 - k) (UInt8.ofNat (48 + n / 10 ^ k % 10)) := by
  obtain ⟨m, hm⟩ : ∃ m, 8 - k = m + 1 := ⟨7 - k, by omega⟩
  rw [stH, stH, dig_cons, hm, show 8 - (k + 1) = m by omega, show 7 - k = m by omega, List.replicate_succ', List.append_assoc, List.set_append_right _ _ (by simp)]
  simp
theorem dig_zero (n k : Nat) (h : n / 10 ^ k = 0) : ∀ j, dig (k + j) n = List.replicate j 48 ++ dig k n
  | 0 => by simp
  | j + 1 => by
    rw [← Nat.add_assoc, dig_cons, dig_zero n k h j, Nat.pow_add, ← Nat.div_div_eq_div_mul, h, Nat.zero_div, List.replicate_succ]
    rfl
theorem stH_end {n k : Nat} (h : k ≤ 8) (hn : n / 10 ^ k = 0) : stH n k = dig 8 n := by
  have := dig_zero n k hn (8 - k)
  rw [show k + (8 - k) = 8 by omega] at this
  rw [this, stH]
def Holds8 (w : World) (g : Nat) (l : Txt) : Prop := ∃ cur : Array Value, w.heap[g]? = some (.cells cur 5 (cur.size, cur.size + 1)) ∧ ∀ j, j < 8 → cur[j]? = some (.int .u8 (l.getD j 0).toNat)
theorem Holds8.cell {w : World} {g : Nat} {l : Txt} (h : Holds8 w g l) {j : Nat} (hj : j < 8) : w.cell? ⟨g, j, none⟩ = some (.int .u8 (l.getD j 0).toNat) := by
  obtain ⟨cur, h1, h2⟩ := h
  simp only [World.cell?, h1]
  exact h2 j hj
theorem Holds8.size {w : World} {g : Nat} {l : Txt} (h : Holds8 w g l) : ∃ cur : Array Value, w.heap[g]? = some (.cells cur 5 (cur.size, cur.size + 1)) ∧ 8 ≤ cur.size := by
  obtain ⟨cur, h1, h2⟩ := h
  refine ⟨cur, h1, ?_⟩
  have := h2 7 (by decide)
  have := (Array.getElem?_eq_some_iff.1 this).1
  omega
theorem Holds8.frozen {w : World} {g : Nat} {l : Txt} (h : Holds8 w g l) {j : Nat} (hj : j < 8) : w.frozen? ⟨g, j, none⟩ = false := by
  obtain ⟨cur, h1, h2⟩ := h.size
  simp [World.frozen?, h1]
  omega
theorem Holds8.set {w : World} {g : Nat} {l : Txt} (h : Holds8 w g l) (hl : l.length = 8) {j : Nat} (hj : j < 8) (b : UInt8) : Holds8 (w.setCell ⟨g, j, none⟩ (.int .u8 b.toNat)) g (l.set j b) := by
  obtain ⟨cur, h1, h2⟩ := h
  refine ⟨cur.setIfInBounds j (.int .u8 b.toNat), by simp [World.setCell, Array.getElem?_modify, h1], fun i hi => ?_⟩
  rw [Array.getElem?_setIfInBounds]
  have h3 := h2 i hi
  have hs := (Array.getElem?_eq_some_iff.1 h3).1
  by_cases e : j = i
  · subst e
    simp [hl, hj, hs]
  · rw [if_neg e, h3]
    simp [List.getD_eq_getElem?_getD, List.getElem?_set, e]
theorem Holds8.new (n : Nat) (w : World) : Holds8 (Go.Lib.bytesWorld w 5 ⟨#[48, 48, 48, 48, 48, 48, 48, 48]⟩) w.heap.size (stH n 0) := by
  refine ⟨_, Go.Lib.bytesWorld_at_new w 5 _, fun j hj => ?_⟩
  have := Go.Lib.bytesWorld_cell w 5 ⟨#[48, 48, 48, 48, 48, 48, 48, 48]⟩ j hj
  simp only [World.cell?, Go.Lib.bytesWorld_at_new] at this
  exact this
theorem h30 (n : Nat) (hn : n < 100000000) (w : World) (hG : GlobB (base w)) :
    Calls Tryd.prog 30 #[.int .i64 n] w fun e w' => e = .returned (.string ⟨(hdr n).toArray⟩) ∧ Below w.heap.size w w' := by
  have hcv : ∀ w : World, (convert 9 68 (.string ⟨#[48, 48, 48, 48, 48, 48, 48, 48]⟩)).run Tryd.prog w = .ok (.slice (some ⟨w.heap.size, 0, none⟩) 8 (grownCap w 8 0 5)) (Go.Lib.bytesWorld w 5 ⟨#[48, 48, 48, 48, 48, 48, 48, 48]⟩) := fun w => Go.Lib.run_convert_string_bytes w 9 68 5 _ Tryd.underlying9 Tryd.underlying68 Tryd.underlying5
  go_enter Tryd.func30, Tryd.ntmps30
  go_wp2_with (go_at_call 43; refine (rep_eight w hG).mono ?_; rintro e w0 ⟨rfl, hb1⟩)
  have hw2 := Go.Lib.bytesWorld_below w0 5 ⟨#[48, 48, 48, 48, 48, 48, 48, 48]⟩
  have hH2 := Holds8.new n w0
  generalize Go.Lib.bytesWorld w0 5 ⟨#[48, 48, 48, 48, 48, 48, 48, 48]⟩ = w2 at hw2 hH2 ⊢
  generalize grownCap w0 8 0 5 = cap
  have hbs := hb1.size
  go_loopg [0, 4] n (fun g x i wr => ∃ k m : Nat, k ≤ 8 ∧ m = n / 10 ^ k ∧ m = g ∧ x = .int .i64 m ∧ i = .int .i64 (7 - (k : Int)) ∧ Holds8 wr w0.heap.size (stH n k) ∧ Below w0.heap.size w0 wr)
  case atStart => exact ⟨0, n, by decide, by simp, rfl, rfl, rfl, hH2, hw2⟩
  case round =>
    obtain ⟨k, m, hk, hm, rfl, rfl, rfl, hH, hb⟩ := hrel
    have hmn : m ≤ n := by rw [hm]; exact Nat.div_le_self _ _
    have hm2 : Aside (n / 10 ^ k = m) := hm.symm
    clear hm
    by_cases h0 : m = 0
    · have hle : ¬ (m : Int) > 0 := by omega
      have hcb : ∀ dst, Tryd.prog.underlying dst = some .string → (convert 68 dst (.slice (some ⟨w0.heap.size, 0, none⟩) 8 cap)).run Tryd.prog wr = .ok (.string ⟨(stH n k).toArray⟩) wr := by
        intro dst hd
        have := run_convert_bytes_back (P := Tryd.prog) wr 68 dst 5 ⟨w0.heap.size, 0, none⟩ cap (stH n k) Tryd.underlying68 Tryd.underlying5 hd (fun j hj => by
          have hj8 : j < 8 := by rwa [stH_len hk] at hj
          have := hH.cell hj8
          rw [List.getD_eq_getElem?_getD, List.getElem?_eq_getElem hj] at this
          rw [Addr.add_lit, Nat.zero_add]
          exact this)
        rwa [stH_len hk] at this
      have hcb9 := hcb 9 Tryd.underlying9
      have hln := stH_len (n := n) hk
      have hsz : (⟨(stH n k).toArray⟩ : ByteArray).size = 8 := by show (stH n k).toArray.size = 8; rw [List.size_toArray, hln]
      go_wp2
      go_ret
      rw [stH_end hk (hm2.out.trans h0)]
      exact ⟨by rw [ByteArray.mk_append_mk]; rfl, hb1.trans (hb.mono hbs)⟩
    · have hk8 : k < 8 := by
        refine Nat.lt_of_not_le fun h => h0 ?_
        rw [← hm2.out]
        refine Nat.div_eq_of_lt (Nat.lt_of_lt_of_le hn ?_)
        exact Nat.pow_le_pow_right (n := 10) (by decide) h
      have hgt : (m : Int) > 0 := by omega
      have hc := hH.cell (j := 7 - k) (by omega)
      have hf := hH.frozen (j := 7 - k) (by omega)
      have hs := hH.set (stH_len hk) (j := 7 - k) (by omega) (UInt8.ofNat (48 + m % 10))
      have hm10 : Aside (m / 10 = n / 10 ^ (k + 1)) := show _ = _ by rw [← hm2.out, Nat.div_div_eq_div_mul, Nat.pow_succ]
      rw [← hm2.out, ← stH_step hk8, hm2.out] at hs
      have hv : ((UInt8.ofNat (48 + m % 10)).toNat : Int) = 48 + (m : Int) % 10 := by
        rw [UInt8.toNat_ofNat']
        omega
      rw [hv] at hs
      have hq : wrap64 ((m : Int).tdiv 10) = (m : Int) / 10 := by
        rw [Int.tdiv_eq_ediv_of_nonneg (by omega)]
        unfold wrap64
        omega
      go_wp2
      go_roundg (m / 10)
      case measure => omega
      case rel =>
        refine ⟨k + 1, m / 10, by omega, hm10.out, rfl, ?_, ?_, hs, hb.setCell (Nat.le_refl _) _⟩
        · simp
        · congr 1; omega
end Go.Abs


set_option maxRecDepth 100000
set_option maxHeartbeats 4000000
namespace Go.Abs
open Go.Proofs Go.Wire Go.RowKit Go.Jr
theorem Spec.ofStr {f : FuncId} {args : List V} {t : Txt} (hc : (match Tryd.prog.funcs[f]? with | some fn => fn.body.isSome && !(fn.name == "runtime.NumGoroutine") | none => false) = true)
    (h : ∀ (w : World) (Z : Bk → Prop) (vs : Array Value), GlobB (base w) → (∀ b, Z b → b.2 < w.heap.size) → ARep w Z args vs.toList → Calls Tryd.prog f vs w fun e w' => e = .returned (.string ⟨t.toArray⟩) ∧ Below w.heap.size w w') : Spec Tryd.prog f args (fun r => r = .str t) := by
  refine ⟨callable_at hc, fun w Z vs hG hz ha => (h w Z vs hG hz ha).mono ?_⟩
  rintro e w' ⟨rfl, hb⟩
  exact ⟨_, _, rfl, rfl, fun _ => rfl, rrep_pure hG (kept_of_below hb) (fun _ => rfl) fun Z => ⟨rfl, .str _⟩⟩
theorem arg1 {w : World} {Z : Bk → Prop} {a : V} {vs : Array Value} (ha : ARep w Z [a] vs.toList) : ∃ v1, vs = #[v1] ∧ VRep w Z (fun _ => none) (fun _ => none) a v1 := by
  obtain ⟨l⟩ := vs
  match l, ha with
  | [], ha => exact absurd ha.1 (by simp)
  | _ :: _ :: _, ha => exact absurd ha.1 (by simp)
  | [v1], ha => exact ⟨v1, rfl, (ha.2 0 _ v1 rfl rfl).2⟩
theorem s30 (n : Nat) (h : n < 100000000) : Spec Tryd.prog 30 [.int .i64 n] (fun r => r = .str (hdr n)) := by
  refine Spec.ofStr (by kernel_rfl) fun w Z vs hG hz ha => ?_
  obtain ⟨v1, rfl, h1⟩ := arg1 ha
  rw [prep_int h1.2]
  exact h30 n h w hG
theorem s43 (n : Nat) (h : n ≤ 16) : Spec Tryd.prog 43 [.str [0], .int .i64 n] (fun r => r = .str (zeros n)) := by
  refine Spec.ofStr (by kernel_rfl) fun w Z vs hG hz ha => ?_
  obtain ⟨v1, v2, rfl, h1, h2⟩ := arg2 ha
  rw [prep_str h1.2, prep_int h2.2]
  exact rep_zero n h w hG
theorem cat_flat (l : List Txt) : ∀ k, k ≤ l.length → cat (fun i => l.getD i []) k = (l.take k).flatten
  | 0, _ => by simp [cat]
  | k + 1, h => by
    rw [cat, cat_flat l k (by omega), List.take_add_one, List.getElem?_eq_getElem (by omega), List.flatten_append]
    simp [List.getD_eq_getElem?_getD, List.getElem?_eq_getElem (show k < l.length by omega)]
theorem s41 (l : List Txt) (h1 : l.length ≤ 1000000) (h2 : l.flatten.length ≤ 140737488355328) : Spec Tryd.prog 41 [lst 1 (strs l), .str []] (fun r => r = .str l.flatten) := by
  refine Spec.ofStr (by kernel_rfl) fun w Z vs hG hz ha => ?_
  obtain ⟨v1, v2, rfl, hv1, hv2⟩ := arg2 ha
  rw [prep_str hv2.2]
  obtain ⟨p, cap, rfl, q, m⟩ := (plain_strs l).slice hv1.2
  rw [strs_len] at q m ⊢
  have hcell : ∀ b o, (∀ j u, (cellsC (strs l))[j]? = some u → w.cell? ⟨b, o + j, none⟩ = some u) → ∀ k, k < l.length → w.cell? ⟨b, o + k, none⟩ = some (.string ⟨(l.getD k []).toArray⟩) := by
    intro b o hc k hk
    refine hc k _ ?_
    have := ((plain_strs l).at (i := k) (j := 0) (r := encS l[k]) (c := .str l[k]) (by simp [strs, hk]) rfl).1
    rw [Nat.mul_one, Nat.add_zero] at this
    rw [this]
    simp [List.getD_eq_getElem?_getD, hk]
    rfl
  match hl : l.length, q, m with
  | 0, q, m =>
    obtain rfl : l = [] := List.eq_nil_of_length_eq_zero hl
    exact join_none cap p w
  | 1, q, m =>
    obtain ⟨b, o, rfl, hc⟩ := q (by decide)
    have := hcell b o hc 0 (by omega)
    match l, hl with
    | [s], _ =>
      have e : [s].flatten = s := by simp
      rw [e]
      exact join_one cap b o ⟨s.toArray⟩ w this (m (by simp))
  | n + 2, q, m =>
    obtain ⟨b, o, rfl, hc⟩ := q (by omega)
    have hb : b < w.heap.size := by
      have := hcell b o hc 0 (by omega)
      exact Nat.lt_of_not_le fun hge => by simp [World.cell?, Array.getElem?_eq_none hge] at this
    have e := cat_flat l (n + 2) (by omega)
    rw [List.take_of_length_le (by omega)] at e
    rw [← e]
    exact join_many (n + 2) cap b o (fun i => l.getD i []) w hb (fun k hk => hcell b o hc k (by omega)) (by omega) (by omega) (m (by omega)) (by rw [e]; exact h2)
end Go.Abs


set_option maxRecDepth 100000
set_option maxHeartbeats 4000000
namespace Go.Abs
open Go.Proofs Go.Wire Go.RowKit Go.Jr
@[simp] theorem wrs_isEmpty (l : List Wr) : (wrs l).isEmpty = l.isEmpty := by cases l <;> rfl
theorem wrs_at {l : List Wr} {i : Nat} (h : i < l.length) : (wrs l).getD i [] = [.int .i64 l[i].pos, .str l[i].text] := by simp [wrs, encW, h]
@[simp] theorem normRow_encW (w : Wr) : C.normRow (encW w) = encW w := rfl
@[simp] theorem normRows_wrs (l : List Wr) : C.normRows (wrs l) = wrs l := normRows_eq (fun _ => rfl) l
theorem wrs_snoc (l : List Wr) (w : Wr) : wrs l ++ [[.int .i64 w.pos, .str w.text]] = wrs (l ++ [w]) := by simp [wrs, encW]
abbrev objC (secs : List Txt) (pend : List Wr) (left : Int) (down : Bool) : O := .var 27 [.c (lstC 1 (strs secs)), .c (lstC 2 (wrs pend)), .c (.int .i64 left), .c (.bool down)]
theorem b37 (d : Disk) (h : Right d) : Spec Tryd.prog 37 [dV d] (fun r => r = .bool true) := by
  refine Spec.of_awlS hf37 okf37 (by simp) fun S hS => ?_
  obtain ⟨secs, pend, left, down⟩ := d
  have hlo : 1 ≤ secs.length := h.lo
  have hhi : secs.length ≤ 512 := h.hi
  have hpe : pend.length ≤ 512 := h.pe
  have hl0 : -1 ≤ left := h.l0
  have hl1 : left ≤ 512 := h.l1
  have hse : ∀ s ∈ secs, s.length = 16 := h.se
  have hwr : ∀ w ∈ pend, 0 ≤ w.pos ∧ w.pos < secs.length ∧ w.text.length = 16 := h.wr
  have l0 : ¬ (secs.length : Int) < 1 := by omega
  have l1 : ¬ (secs.length : Int) > 512 := by omega
  have p1 : ¬ (pend.length : Int) > 512 := by omega
  have f0 : ¬ left < -1 := by omega
  have f1 : ¬ left > 512 := by omega
  have hpl : down = true → ¬ (pend.length : Int) > 0 ∧ (left != -1) = false := fun e => by
    obtain ⟨e1, e2⟩ := h.dn e
    have e1 : pend = [] := e1
    have e2 : left = -1 := e2
    subst e1 e2
    exact ⟨by simp, rfl⟩
  have key : ∀ ts, lookT 1 ts = .k (.ptr 1 0) → awl Tryd.prog f37b40 (endK [RX.t 2] S) ts [(1, objC secs pend left down)] := by
    intro ts h1
    simp only [h1, strs_len, wrs_len, Qs, if_false, Nat.reduceAdd, Nat.reduceLeDiff, uu f37b37.eq_1, id @f37r38.eq_1, uu f37b39.eq_1, uu f37b40.eq_1]
    rw [uf37l36]
    refine awl_loop (fun i : Nat => [(1, .k (.ptr 1 0)), (49, lst 1 (strs secs)), (50, .int .i64 secs.length), (51, .int .i64 i)]) (fun _ => [(1, objC secs pend left down)])
      (fun i => i ≤ secs.length) (fun i => secs.length - i) 0 (by simp [keepT, lookT, h1]) rfl (Nat.zero_le _) ?_
    intro i hi
    by_cases hlt : i < secs.length
    · have c1 : (i : Int) < secs.length := by omega
      have c4 : IntKind.i64.wrap ((i : Int) + 1) = (i : Int) + 1 := wrap_in (by omega) (by omega)
      have c2 := hse _ (List.getElem_mem hlt)
      simp only [strs_len, c1, c2, c4, strs_at hlt, Qs, if_true, Nat.reduceBEq, Int.reduceBNe, id @f37r22.eq_1, uu f37b25.eq_1, id @f37r26.eq_1, uu f37b27.eq_1, id @f37r28.eq_1, uu f37b29.eq_1, uu f37b30.eq_1, uu f37b31.eq_1, uu f37b32.eq_1, uu f37b33.eq_1, id @f37r34.eq_1, uu f37b35.eq_1]
      exact Next.intro (i + 1) rfl rfl (by omega) (by omega)
    · have c1 : ¬ (i : Int) < secs.length := by omega
      simp only [strs_len, wrs_len, c1, Qs, if_true, if_false, Nat.reduceAdd, Nat.reduceLeDiff, Nat.reduceBEq, uu f37b18.eq_1, id @f37r19.eq_1, uu f37b20.eq_1, uu f37b21.eq_1, uu f37b32.eq_1, uu f37b33.eq_1, id @f37r34.eq_1, uu f37b35.eq_1]
      rw [uf37l17]
      refine awl_loop (fun i : Nat => [(1, .k (.ptr 1 0)), (60, lst 2 (wrs pend)), (61, .int .i64 pend.length), (62, .int .i64 i)]) (fun _ => [(1, objC secs pend left down)])
        (fun i => i ≤ pend.length) (fun i => pend.length - i) 0 rfl rfl (Nat.zero_le _) ?_
      intro i hi
      by_cases hlt : i < pend.length
      · have c1 : (i : Int) < pend.length := by omega
        have c4 : IntKind.i64.wrap ((i : Int) + 1) = (i : Int) + 1 := wrap_in (by omega) (by omega)
        obtain ⟨w0, w1, w2⟩ := hwr _ (List.getElem_mem hlt)
        have c5 : ¬ pend[i].pos < 0 := by omega
        have c6 : ¬ pend[i].pos ≥ secs.length := by omega
        simp only [strs_len, wrs_len, c1, c4, c5, c6, w2, wrs_at hlt, Qs, if_true, if_false, bne_iff_ne, ne_eq, List.append_nil, Nat.reduceAdd, Nat.reduceEqDiff, Nat.reduceLeDiff, Nat.reduceBEq, Int.reduceBNe, id @f37r3.eq_1, uu f37b6.eq_1, id @f37r7.eq_1, uu f37b8.eq_1, id @f37r9.eq_1, uu f37b10.eq_1, uu f37b11.eq_1, uu f37b12.eq_1, uu f37b13.eq_1, uu f37b14.eq_1, id @f37r15.eq_1, uu f37b16.eq_1]
        exact Next.intro (i + 1) rfl rfl (by omega) (by omega)
      · have c1 : ¬ (i : Int) < pend.length := by omega
        simp only [wrs_len, c1, Qs, if_true, List.nodup_nil, Nat.reduceBEq, id @f37r1.eq_1, uu f37b2.eq_1, uu f37b13.eq_1, uu f37b14.eq_1, id @f37r15.eq_1, uu f37b16.eq_1]
        exact hS
  cases down
  · simp only [encD, strs_len, wrs_len, l0, l1, p1, f0, f1, Qs, if_true, if_false, Int.reduceNeg, Nat.reduceAdd, Nat.reduceLeDiff, Nat.reduceBEq, uu f37.eq_1, uu f37b43.eq_1, id @f37r44.eq_1, uu f37b45.eq_1, uu f37b46.eq_1, id @f37r47.eq_1, uu f37b48.eq_1]
    exact key _ rfl
  · obtain ⟨e1, e2⟩ := hpl rfl
    simp only [encD, strs_len, wrs_len, l0, l1, p1, f0, f1, e1, e2, Qs, if_true, if_false, Int.reduceNeg, Nat.reduceAdd, Nat.reduceLeDiff, Nat.reduceBEq, uu f37.eq_1, uu f37b43.eq_1, id @f37r44.eq_1, uu f37b45.eq_1, uu f37b46.eq_1, id @f37r47.eq_1, uu f37b48.eq_1]
    exact key _ rfl
end Go.Abs


set_option maxRecDepth 100000
set_option maxHeartbeats 4000000
namespace Go.Abs
open Go.Proofs Go.Wire Go.RowKit Go.Jr
theorem fin_D {S : V → Prop} {X : V} (h : ∀ r, r.fz.nrm = X → S r) {c1 c2 : C} {l : Int} {b : Bool} {secs : List Txt} {pend : List Wr} (h1 : c1.norm = lstC 1 (strs secs)) (h2 : c2.norm = lstC 2 (wrs pend)) (hX : X = dV ⟨secs, pend, l, b⟩) : S (.agg [c1, c2, .int .i64 l, .bool b]) := by
  refine h _ ?_
  simp only [V.fz, V.nrm, C.normRow, h1, h2, norm_int, norm_bool, hX, dV, encD]
def resD (x : Disk × Int) : V := .tup [dV x.1, .int .i64 x.2]
theorem fin_T {S : V → Prop} {X : V} (h : ∀ r, r.fz.nrm = X → S r) {c1 c2 : C} {l e : Int} {b : Bool} {secs : List Txt} {pend : List Wr} (h1 : c1.norm = lstC 1 (strs secs)) (h2 : c2.norm = lstC 2 (wrs pend)) (hX : X = resD (⟨secs, pend, l, b⟩, e)) : S (.tup [.agg [c1, c2, .int .i64 l, .bool b], .k (.c (.int .i64 e))]) := by
  refine h _ ?_
  simp only [V.fz, V.nrm, V.fzL, V.nrmL, Abs.K.fz, Abs.K.nrm, C.normRow, h1, h2, norm_int, norm_bool, hX, resD, dV, encD]
theorem fin_K {S : V → Prop} {X : V} (h : ∀ r, r.fz.nrm = X → S r) {k1 k2 : K} {c1 c2 : C} {l e : Int} {b : Bool} {secs : List Txt} {pend : List Wr} (e1 : k1.fz = .c c1) (e2 : k2.fz = .c c2) (h1 : c1.norm = lstC 1 (strs secs)) (h2 : c2.norm = lstC 2 (wrs pend)) (hX : X = resD (⟨secs, pend, l, b⟩, e)) : S (.tup [.agk [k1, k2, .c (.int .i64 l), .c (.bool b)], .k (.c (.int .i64 e))]) := by
  refine h _ ?_
  have : V.fz (.agk [k1, k2, .c (.int .i64 l), .c (.bool b)]) = .agg [c1, c2, .int .i64 l, .bool b] := by
    simp only [V.fz, List.map_cons, List.map_nil, e1, e2]; rfl
  rw [show (V.tup [V.agk [k1, k2, K.c (C.int IntKind.i64 l), K.c (C.bool b)], V.k (K.c (C.int IntKind.i64 e))]).fz = .tup [V.fz (.agk [k1, k2, .c (.int .i64 l), .c (.bool b)]), .k (.c (.int .i64 e))] from rfl, this]
  simp only [V.nrmL, V.nrm, C.normRow, h1, h2, norm_int, norm_bool, hX, resD, dV, encD, Abs.K.nrm]
theorem norm_s (l : List Txt) : (lstC 1 (strs l)).norm = lstC 1 (strs l) := by rw [norm_lst, normRows_strs]
theorem norm_w (l : List Wr) : (lstC 2 (wrs l)).norm = lstC 2 (wrs l) := by rw [norm_lst, normRows_wrs]
theorem b34 (d : Disk) (h : Right d) : Spec Tryd.prog 34 [dV d] (fun r => r = .int .i64 (if d.down = true then 8 else 0)) := by
  refine Spec.of_awlS hf34 okf34 (by simp) fun S hS => ?_
  have c37 := b37 d h
  obtain ⟨secs, pend, left, down⟩ := d
  simp only [dV, encD] at *
  simp only [encD, normRows_strs, normRows_wrs, Qs, if_true, Nat.reduceAdd, Nat.reduceBEq, uu f34.eq_1, id @f34r11.eq_1, uu f34b12.eq_1, uu f34b13.eq_1, uu f34b14.eq_1, id @f34r15.eq_1, uu f34b16.eq_1]
  refine call_s c37 ?_
  cases down <;> simp only [Qs, if_false, List.nodup_nil, Nat.reduceAdd, Nat.reduceBEq, id @f34r1.eq_1, uu f34b2.eq_1, id @f34r5.eq_1, uu f34b6.eq_1, uu f34b7.eq_1, id @f34r8.eq_1, uu f34b9.eq_1, uu f34b10.eq_1] <;> exact hS
theorem b45 (d : Disk) (h : Right d) : Spec Tryd.prog 45 [dV d] (fun r => r = .int .i64 0) := by
  refine Spec.of_awlS hf45 okf45 (by simp) fun S hS => ?_
  have c37 := b37 d h
  obtain ⟨secs, pend, left, down⟩ := d
  simp only [dV, encD] at *
  simp only [encD, normRows_strs, normRows_wrs, Qs, if_true, Nat.reduceAdd, Nat.reduceBEq, uu f45.eq_1, id @f45r6.eq_1, uu f45b7.eq_1, uu f45b8.eq_1, id @f45r9.eq_1, uu f45b10.eq_1]
  refine call_s c37 ?_
  simp only [Qs, List.nodup_nil, id @f45r1.eq_1, uu f45b2.eq_1, uu f45b5.eq_1]
  exact hS
theorem b35 (d : Disk) : Spec Tryd.prog 35 [dV d] (fun r => r = dV ⟨d.secs, [], -1, true⟩) := by
  refine Spec.of_awlP hf35 okf35 (by simp) fun S hS => ?_
  obtain ⟨secs, pend, left, down⟩ := d
  simp only [dV, encD] at *
  simp only [encD, normRows_strs, normRows_wrs, Qs, if_true, bne_iff_ne, ne_eq, Int.reduceNeg, List.append_nil, List.nodup_nil, Nat.reduceAdd, Nat.reduceEqDiff, Nat.reduceLeDiff, Nat.reduceLT, Nat.reduceBEq, uu f35.eq_1, id @f35r1.eq_1, uu f35b2.eq_1, id @f35r3.eq_1, uu f35b4.eq_1, id @f35r5.eq_1, uu f35b6.eq_1]
  exact fin_D hS (norm_s _) (pend := []) rfl rfl
theorem b33 (d : Disk) (h : Right d) : Spec Tryd.prog 33 [dV d] (fun r => r = .int .i64 (readyD d)) := by
  refine Spec.of_awlS hf33 okf33 (by simp) fun S hS => ?_
  have c45 := b45 d h
  obtain ⟨secs, pend, left, down⟩ := d
  unfold readyD at hS
  simp only [dV, encD] at *
  simp only [encD, normRows_strs, normRows_wrs, Qs, if_true, Nat.reduceAdd, Nat.reduceBEq, uu f33.eq_1, id @f33r16.eq_1, uu f33b17.eq_1, uu f33b18.eq_1, uu f33b19.eq_1, id @f33r20.eq_1, uu f33b21.eq_1]
  refine call_s c45 ?_
  cases down
  · by_cases hp : pend = []
    · have c : ¬ (pend.length : Int) > 0 := by simp [hp]
      simp only [wrs_len, c, Qs, if_true, if_false, List.nodup_nil, Nat.reduceAdd, Nat.reduceLeDiff, Nat.reduceBEq, Int.reduceBNe, id @f33r1.eq_1, uu f33b2.eq_1, uu f33b9.eq_1, id @f33r10.eq_1, uu f33b11.eq_1, uu f33b12.eq_1, id @f33r13.eq_1, uu f33b14.eq_1, uu f33b15.eq_1]
      rw [if_neg (by simp), if_pos hp] at hS
      exact hS
    · have c : (pend.length : Int) > 0 := by have := List.length_pos_iff.2 hp; omega
      simp only [wrs_len, c, Qs, if_true, if_false, List.nodup_nil, Nat.reduceAdd, Nat.reduceLeDiff, Nat.reduceBEq, Int.reduceBNe, id @f33r7.eq_1, uu f33b8.eq_1, uu f33b9.eq_1, id @f33r10.eq_1, uu f33b11.eq_1, uu f33b12.eq_1, id @f33r13.eq_1, uu f33b14.eq_1, uu f33b15.eq_1]
      rw [if_neg (by simp), if_neg hp] at hS
      exact hS
  · simp only [Qs, if_true, if_false, List.nodup_nil, Nat.reduceAdd, Nat.reduceBEq, Int.reduceBNe, id @f33r5.eq_1, uu f33b6.eq_1, uu f33b12.eq_1, id @f33r13.eq_1, uu f33b14.eq_1, uu f33b15.eq_1]
    exact hS
end Go.Abs


set_option maxRecDepth 100000
set_option maxHeartbeats 4000000
namespace Go.Abs
open Go.Proofs Go.Wire Go.RowKit Go.Jr
theorem fresh_plain (d : Disk) : (freshV d).fz.nrm = dV d := by
  show V.nrm (.agg [.list 1 none (strs d.secs), .list 2 none (wrs d.pend), .int .i64 d.left, .bool d.down]) = _
  simp only [V.nrm, C.normRow, norm_list, norm_int, norm_bool, normRows_strs, normRows_wrs, dV, encD]
theorem s36p (d : Disk) (h : Right d) : Spec Tryd.prog 36 [dV d] (fun r => r = dV d) := by
  refine (s36 d h).plain.mono ?_
  rintro r' ⟨r, rfl, rfl⟩
  exact fresh_plain d
theorem norm_s' (nl : Option Bool) (l : List Txt) : (C.list 1 nl (strs l)).norm = lstC 1 (strs l) := by rw [norm_list, normRows_strs]
theorem norm_w' (nl : Option Bool) (l : List Wr) : (C.list 2 nl (wrs l)).norm = lstC 2 (wrs l) := by rw [norm_list, normRows_wrs]
theorem b18 (d : Disk) (h : Right d) : Spec Tryd.prog 18 [dV d] (fun r => r = resD (cutD d)) := by
  refine Spec.of_awlP hf18 okf18 (by simp) fun S hS => ?_
  have c34 := b34 d h
  have c36 := s36p d h
  have c35 := b35 d
  obtain ⟨secs, pend, left, down⟩ := d
  unfold cutD at hS
  simp only [dV, encD] at *
  simp only [normRows_strs, normRows_wrs, Qs, if_true, bne_iff_ne, ne_eq, Nat.reduceAdd, Nat.reduceEqDiff, Nat.reduceBEq, uu f18.eq_1, id @f18r8.eq_1, uu f18b9.eq_1, uu f18b10.eq_1, id @f18r11.eq_1, uu f18b12.eq_1]
  refine call_s c34 ?_
  cases down
  · simp only [normRows_strs, normRows_wrs, Qs, if_true, if_false, Nat.reduceAdd, Nat.reduceBEq, Int.reduceBNe, id @f18r1.eq_1, uu f18b2.eq_1, uu f18b5.eq_1, id @f18r6.eq_1, uu f18b7.eq_1]
    refine call_r c36 ?_
    simp only [normRows_strs, normRows_wrs, Qs, Nat.reduceAdd, Nat.reduceMul]
    refine call_r c35 ?_
    simp only [normRows_strs, normRows_wrs, Qs, if_true, Int.reduceNeg, List.append_nil, List.nodup_nil, Nat.reduceAdd, Nat.reduceMul, Nat.reduceLT, Nat.reduceBEq]
    exact fin_T hS (norm_s _) (norm_w []) rfl
  · simp only [normRows_strs, normRows_wrs, Qs, if_true, List.append_nil, List.nodup_nil, Nat.reduceAdd, Nat.reduceLT, Nat.reduceBEq, Int.reduceBNe, id @f18r3.eq_1, uu f18b4.eq_1, uu f18b5.eq_1, id @f18r6.eq_1, uu f18b7.eq_1]
    exact fin_T hS (secs := []) (pend := []) rfl rfl rfl
theorem b19 (d : Disk) (h : Right d) : Spec Tryd.prog 19 [dV d] (fun r => r = resD (startD d)) := by
  refine Spec.of_awlP hf19 okf19 (by simp) fun S hS => ?_
  have c37 := b37 d h
  have c36 := s36 d h
  obtain ⟨secs, pend, left, down⟩ := d
  unfold startD at hS
  simp only [dV, encD] at *
  simp only [normRows_strs, normRows_wrs, Qs, if_true, bne_iff_ne, ne_eq, Nat.reduceAdd, Nat.reduceEqDiff, Nat.reduceBEq, uu f19.eq_1, id @f19r16.eq_1, uu f19b17.eq_1, uu f19b18.eq_1, id @f19r19.eq_1, uu f19b20.eq_1]
  refine call_s c37 ?_
  cases down
  · simp only [normRows_strs, normRows_wrs, Qs, if_true, if_false, List.append_nil, List.nodup_nil, Nat.reduceAdd, Nat.reduceLT, Nat.reduceBEq, id @f19r7.eq_1, uu f19b8.eq_1, uu f19b9.eq_1, id @f19r10.eq_1, uu f19b11.eq_1, uu f19b12.eq_1, uu f19b15.eq_1]
    exact fin_T hS (secs := []) (pend := []) rfl rfl rfl
  · simp only [normRows_strs, normRows_wrs, Qs, if_true, if_false, Nat.reduceAdd, Nat.reduceBEq, id @f19r5.eq_1, uu f19b6.eq_1, uu f19b9.eq_1, id @f19r10.eq_1, uu f19b11.eq_1, uu f19b12.eq_1, uu f19b15.eq_1]
    refine call_r c36 ?_
    simp only [normRows_strs, normRows_wrs, Qs, q_K_regs_eq_1, q_K_regs_eq_2, q_K_regs_eq_3, q_freesL_eq_2, q_addsL_eq_2, if_true, or_true, bne_iff_ne, ne_eq, List.append_nil, List.mem_cons, List.nodup_nil, List.nodup_cons, Nat.reduceAdd, Nat.reduceMul, Nat.reduceEqDiff, Nat.reduceLT, Nat.reduceBEq, List.not_mem_nil, id @f19r1.eq_1, uu f19b2.eq_1, id @f19r3.eq_1, uu f19b4.eq_1]
    exact fin_K hS rfl rfl (norm_s' _ _) (norm_w' _ _) rfl
theorem b28 (d : Disk) (h : Right d) (i : Int) (s : Txt) : Spec Tryd.prog 28 [dV d, .int .i64 i, .str s] (fun r => r = resD (writeD d i s)) := by
  refine Spec.of_awlP hf28 okf28 (by simp) fun S hS => ?_
  have c34 := b34 d h
  have c36 := s36 d h
  have hpe := h.pe
  obtain ⟨secs, pend, left, down⟩ := d
  unfold writeD at hS
  simp only [dV, encD] at *
  simp only [normRows_strs, normRows_wrs, Qs, if_true, bne_iff_ne, ne_eq, Nat.reduceAdd, Nat.reduceEqDiff, Nat.reduceBEq, uu f28.eq_1, id @f28r24.eq_1, uu f28b25.eq_1, uu f28b26.eq_1, id @f28r27.eq_1, uu f28b28.eq_1]
  refine call_s c34 ?_
  cases down
  · rw [if_neg (by simp)] at hS
    by_cases h1 : i < 0
    · simp only [h1, normRows_strs, normRows_wrs, Qs, if_true, if_false, List.append_nil, List.nodup_nil, Nat.reduceAdd, Nat.reduceLT, Nat.reduceBEq, Int.reduceBNe, id @f28r13.eq_1, uu f28b14.eq_1, uu f28b15.eq_1, id @f28r16.eq_1, uu f28b17.eq_1, uu f28b18.eq_1, uu f28b21.eq_1, id @f28r22.eq_1, uu f28b23.eq_1]
      rw [if_pos (.inl h1)] at hS
      exact fin_T hS (secs := []) (pend := []) rfl rfl rfl
    by_cases h2 : i ≥ secs.length
    · simp only [h1, h2, strs_len, normRows_strs, normRows_wrs, Qs, if_true, if_false, List.append_nil, List.nodup_nil, Nat.reduceAdd, Nat.reduceLeDiff, Nat.reduceLT, Nat.reduceBEq, Int.reduceBNe, id @f28r13.eq_1, uu f28b14.eq_1, uu f28b15.eq_1, id @f28r16.eq_1, uu f28b17.eq_1, uu f28b18.eq_1, uu f28b21.eq_1, id @f28r22.eq_1, uu f28b23.eq_1]
      rw [if_pos (.inr (.inl h2))] at hS
      exact fin_T hS (secs := []) (pend := []) rfl rfl rfl
    by_cases h3 : (s.length : Int) > 16
    · simp only [h1, h2, h3, strs_len, normRows_strs, normRows_wrs, Qs, if_true, if_false, List.append_nil, List.nodup_nil, Nat.reduceAdd, Nat.reduceLeDiff, Nat.reduceLT, Nat.reduceBEq, Int.reduceBNe, id @f28r13.eq_1, uu f28b14.eq_1, uu f28b15.eq_1, id @f28r16.eq_1, uu f28b17.eq_1, uu f28b18.eq_1, uu f28b21.eq_1, id @f28r22.eq_1, uu f28b23.eq_1]
      rw [if_pos (.inr (.inr (by omega)))] at hS
      exact fin_T hS (secs := []) (pend := []) rfl rfl rfl
    rw [if_neg (fun h => h.elim h1 fun h => h.elim h2 fun h => h3 (by omega))] at hS
    by_cases h4 : (pend.length : Int) = 512
    · simp only [h1, h2, h3, h4, strs_len, wrs_len, normRows_strs, normRows_wrs, Qs, if_true, if_false, BEq.rfl, List.append_nil, List.nodup_nil, Nat.reduceAdd, Nat.reduceLeDiff, Nat.reduceLT, Nat.reduceBEq, Int.reduceBNe, id @f28r7.eq_1, uu f28b8.eq_1, uu f28b9.eq_1, id @f28r10.eq_1, uu f28b11.eq_1, uu f28b12.eq_1, uu f28b15.eq_1, id @f28r16.eq_1, uu f28b17.eq_1, uu f28b18.eq_1, uu f28b21.eq_1, id @f28r22.eq_1, uu f28b23.eq_1]
      rw [if_pos (by omega)] at hS
      exact fin_T hS (secs := []) (pend := []) rfl rfl rfl
    rw [if_neg (by omega)] at hS
    have c43 := s43 (16 - s.length) (by omega)
    rw [show ((16 - s.length : Nat) : Int) = 16 - (s.length : Int) by omega] at c43
    have c5 : IntKind.i64.wrap (16 - (s.length : Int)) = 16 - (s.length : Int) := wrap_in (by omega) (by omega)
    simp only [h1, h2, h3, h4, c5, strs_len, wrs_len, normRows_strs, normRows_wrs, Qs, if_true, if_false, forall_const, List.append_nil, List.nodup_nil, Nat.reduceAdd, Nat.reduceLeDiff, Nat.reduceLT, Nat.reduceBEq, Int.reduceBNe, id @f28r5.eq_1, uu f28b6.eq_1, id @f28r7.eq_1, uu f28b8.eq_1, uu f28b9.eq_1, id @f28r10.eq_1, uu f28b11.eq_1, uu f28b12.eq_1, uu f28b15.eq_1, id @f28r16.eq_1, uu f28b17.eq_1, uu f28b18.eq_1, uu f28b21.eq_1, id @f28r22.eq_1, uu f28b23.eq_1]
    refine call_r c36 ?_
    simp only [h1, h2, h3, h4, c5, strs_len, wrs_len, normRows_strs, normRows_wrs, Qs, q_exLQ_eq_34, q_K_regs_eq_1, q_K_regs_eq_2, q_K_regs_eq_3, q_freesL_eq_2, q_addsL_eq_2, if_true, if_false, or_true, bne_iff_ne, ne_eq, List.append_nil, Nat.reduceAdd, Nat.reduceMul, Nat.reduceEqDiff, Nat.reduceLeDiff, Nat.reduceBEq, id @f28r3.eq_1, uu f28b4.eq_1]
    refine ⟨rfl, _, c43, .inl rfl, ?_⟩
    simp only [h1, h2, h3, h4, c5, strs_len, wrs_len, normRows_strs, normRows_wrs, Qs, q_exLQ_eq_6, q_exLQ_eq_8, q_exLQ_eq_36, q_vBuild_eq_2, q_vRow_eq_2, q_bsQ_eq_1, q_srcV_eq_1, q_V_scrub_eq_2, q_C_normRows_eq_2, q_List_isEmpty_cons, if_true, if_false, reduceCtorEq, forall_eq, List.append_nil, List.mem_cons, List.nodup_nil, List.nodup_cons, Nat.reduceAdd, Nat.reduceEqDiff, Nat.reduceLeDiff, Nat.reduceLT, Nat.reduceBEq, List.not_mem_nil, id @f28r1.eq_1, uu f28b2.eq_1]
    rw [show wrs pend ++ [[C.int IntKind.i64 i, C.str (s ++ zeros (16 - s.length))]] = wrs (pend ++ [⟨i, s ++ zeros (16 - s.length)⟩]) from wrs_snoc pend ⟨i, _⟩, normRows_wrs]
    exact ⟨by rw [zeros, List.length_replicate]; omega, by omega, by omega, fin_K hS rfl rfl (norm_s' _ _) (norm_w' _ _) rfl⟩
  · simp only [normRows_strs, normRows_wrs, Qs, if_true, List.append_nil, List.nodup_nil, Nat.reduceAdd, Nat.reduceLT, Nat.reduceBEq, Int.reduceBNe, id @f28r19.eq_1, uu f28b20.eq_1, uu f28b21.eq_1, id @f28r22.eq_1, uu f28b23.eq_1]
    exact fin_T hS (secs := []) (pend := []) rfl rfl rfl
end Go.Abs


set_option maxRecDepth 100000
set_option maxHeartbeats 4000000
namespace Go.Abs
open Go.Proofs Go.Wire Go.RowKit Go.Jr
theorem perf_snoc : ∀ (ws : List Wr) (l : List Txt) (w : Wr), perf l (ws ++ [w]) = (perf l ws).set w.pos.toNat w.text
  | [], l, w => rfl
  | x :: ws, l, w => by rw [List.cons_append, perf, perf, perf_snoc ws]
theorem perf_take {pend : List Wr} {l : List Txt} {j : Nat} (h : j < pend.length) : perf l (pend.take (j + 1)) = (perf l (pend.take j)).set (pend[j].pos.toNat) pend[j].text := by
  rw [List.take_add_one, List.getElem?_eq_getElem h]
  exact perf_snoc _ _ _
theorem of_orF {p : Prop} (h : p ∨ False) : p := h.elim id False.elim
theorem strs_set (l : List Txt) (i : Nat) (t : Txt) : (strs l).set i [.str t] = strs (l.set i t) := by simp [strs, encS, List.map_set]
theorem b29 (d : Disk) (h : Right d) : Spec Tryd.prog 29 [dV d] (fun r => r = resD (flushD d)) := by
  refine Spec.of_awlP hf29 okf29 (by simp) fun S hS => ?_
  have c34 := b34 d h
  have c36 := s36 d h
  have hpe := h.pe
  have hwr := h.wr
  have hse := h.se
  have hL0 := h.l0
  have hL1 := h.l1
  obtain ⟨secs, pend, left, down⟩ := d
  unfold flushD at hS
  simp only [dV, encD] at *
  simp only [normRows_strs, normRows_wrs, Qs, if_true, bne_iff_ne, ne_eq, Nat.reduceAdd, Nat.reduceEqDiff, Nat.reduceBEq, uu f29.eq_1, id @f29r51.eq_1, uu f29b52.eq_1, uu f29b53.eq_1, id @f29r54.eq_1, uu f29b55.eq_1]
  refine call_s c34 ?_
  cases down
  · rw [if_neg (by simp)] at hS
    have key : ∀ (n : Nat) (al : Bool) ts os, n ≤ pend.length → keepT ts [1, 2, 5, 6, 37, 38, 39] = [(1, .k (.ptr 1 0)), (2, .k (.ptr 2 0)), (5, .int .i64 n), (6, .bool al), (37, V.list 2 none (wrs (pend.take n))), (38, .int .i64 n), (39, .int .i64 (0 : Nat))] →
        keepO os [1, 2, 17, 75, 18000, 18001, 18002, 76000, 76001, 76002] = [(1, .var 27 [.own 18000, .c (.list 2 none (wrs pend)), .c (.int .i64 left), .c (.bool false)]), (2, .var 27 [.c (.list 0 (some true) []), .c (.list 0 (some true) []), .c (.int .i64 0), .c (.bool false)]), (18000, .arr 9 1 none (strs secs))] →
        (if al = true then n = pend.length ∧ ¬ (0 ≤ left ∧ left < pend.length) else left = n ∧ n < pend.length) →
        awl Tryd.prog f29l30 (AE.inBlockL 0 (AE.thenL (awl Tryd.prog f29b19 (endK [RX.cell 2 4 true, RX.t 3] S)) (endK [RX.cell 2 4 true, RX.t 3] S))) ts os := by
      intro n al ts os hn hts hos hal
      rw [uf29l30]
      refine awl_loop (fun j : Nat => [(1, .k (.ptr 1 0)), (2, .k (.ptr 2 0)), (5, .int .i64 n), (6, .bool al), (37, V.list 2 none (wrs (pend.take n))), (38, .int .i64 n), (39, .int .i64 j)])
        (fun j => [(1, .var 27 [.own 18000, .c (.list 2 none (wrs pend)), .c (.int .i64 left), .c (.bool false)]), (2, .var 27 [.c (.list 0 (some true) []), .c (.list 0 (some true) []), .c (.int .i64 0), .c (.bool false)]), (18000, .arr 9 1 none (strs (perf secs (pend.take j))))])
        (fun j => j ≤ n) (fun j => n - j) 0 hts hos (Nat.zero_le _) ?_
      intro j hj
      by_cases hlt : j < n
      · have c1 : (j : Int) < n := by omega
        have c4 : IntKind.i64.wrap ((j : Int) + 1) = (j : Int) + 1 := wrap_in (by omega) (by omega)
        have hjp : j < (pend.take n).length := by rw [List.length_take]; omega
        obtain ⟨w0, w1, w2⟩ := hwr _ (List.getElem_mem (show j < pend.length by omega))
        have e1 : (wrs (pend.take n)).getD j [] = [.int .i64 pend[j].pos, .str pend[j].text] := by rw [wrs_at hjp, List.getElem_take]
        obtain ⟨q, hq⟩ : ∃ q : Nat, pend[j].pos = q := ⟨pend[j].pos.toNat, by omega⟩
        have hq1 : q < secs.length := by omega
        simp only [strs_len, wrs_len, c1, c4, e1, hq, Qs, q_vIaddr_eq_1, q_vIaddr_eq_2, q_idxO_eq_1, q_stArrK_eq_1, q_storeK_eq_2, if_true, if_false, bne_iff_ne, ne_eq, List.append_nil, Nat.reduceAdd, Nat.reduceEqDiff, Nat.reduceLeDiff, Nat.reduceBEq, id @f29r20.eq_1, id @f29r21.eq_1, id @f29r22.eq_1, uu f29b23.eq_1, uu f29b24.eq_1, uu f29b25.eq_1, uu f29b26.eq_1, uu f29b27.eq_1, id @f29r28.eq_1, uu f29b29.eq_1]
        have e2 : (strs (perf secs (List.take j pend))).set q [C.str pend[j].text] = strs (perf secs (List.take (j + 1) pend)) := by
          rw [strs_set, perf_take (show j < pend.length by omega), hq, Int.toNat_natCast]
        rw [e2, perf_len]
        exact ⟨by omega, by omega, Next.intro (j + 1) rfl rfl (by omega) (by omega)⟩
      · obtain rfl : j = n := by omega
        have c1 : ¬ (j : Int) < j := by omega
        cases al
        · rw [if_neg (by simp)] at hal
          obtain ⟨hl, hjp⟩ := hal
          obtain ⟨w0, w1, w2⟩ := hwr _ (List.getElem_mem hjp)
          have e1 := wrs_at hjp
          obtain ⟨q, hq⟩ : ∃ q : Nat, pend[j].pos = q := ⟨pend[j].pos.toNat, by omega⟩
          have hq1 : q < secs.length := by omega
          have hpl := perf_len (pend.take j) secs
          have e3 := strs_at (l := perf secs (pend.take j)) (i := q) (by omega)
          have hps : ((perf secs (pend.take j))[q]'(by omega)).length = 16 := perf_se (pend.take j) secs hse (fun w hw => (hwr w (List.mem_of_mem_take hw)).2.2) _ (List.getElem_mem _)
          simp only [c1, e1, hq, e3, strs_len, wrs_len, Qs, q_loadO_eq_2, q_isA_eq_1, q_vLoad_eq_3, q_vIaddr_eq_1, q_vIaddr_eq_2, q_idxO_eq_1, q_stArrK_eq_1, q_storeK_eq_2, if_true, if_false, bne_iff_ne, ne_eq, List.append_nil, Nat.reduceAdd, Nat.reduceEqDiff, Nat.reduceLeDiff, Nat.reduceBEq, Int.reduceLE, Int.reduceToNat, id @f29r10.eq_1, uu f29b11.eq_1, id @f29r12.eq_1, uu f29b13.eq_1, id @f29r14.eq_1, uu f29b15.eq_1, uu f29b16.eq_1, id @f29r17.eq_1, uu f29b18.eq_1, uu f29b19.eq_1, uu f29b26.eq_1, uu f29b27.eq_1, id @f29r28.eq_1, uu f29b29.eq_1]
          have e4 : (strs (perf secs (pend.take j))).set q [C.str (pend[j].text.take 8 ++ ((perf secs (pend.take j))[q]'(by omega)).drop 8)] = strs ((perf secs (pend.take j)).set q (pend[j].text.take 8 ++ ((perf secs (pend.take j))[q]'(by omega)).drop 8)) := strs_set _ _ _
          rw [List.take_length, e4, hps, w2]
          refine ⟨by omega, by decide, by omega, ⟨by decide, by decide⟩, by simp only [List.length_take, List.length_drop, hps, w2]; decide, by omega, ?_⟩
          refine call_f 18000 (by simp [look, lookT]) (by simp [V.hard, V.toks, Abs.K.toks]) (by simp [lookO, plainO]) ?_
          simp only [Qs, if_true, if_false, Nat.reduceEqDiff, z_V_k, z_V_agg, z_K_c, z_K_pel, z_O_var, z_frzT, z_frzO, z_agF1, z_V_agk, z_K_own_arr, z_K_elem_arr, z_K_ptr_arr]
          refine of_orF (call_r (b35 ⟨(perf secs (pend.take j)).set q (pend[j].text.take 8 ++ ((perf secs (pend.take j))[q]'(by omega)).drop 8), pend, left, false⟩) ?_ (ha := by simp [lendL, V.norm, C.normRow, encD, norm_list, norm_lst, normRows_strs, normRows_wrs]))
          simp only [dV, encD, normRows_strs, normRows_wrs, Qs, if_true, Int.reduceNeg, List.append_nil, List.nodup_nil, Nat.reduceAdd, Nat.reduceMul, Nat.reduceLT, Nat.reduceBEq]
          subst hl
          rw [if_pos (by omega), Int.toNat_natCast, List.getD_eq_getElem?_getD, List.getElem?_eq_getElem hjp, Option.getD_some, hq, Int.toNat_natCast, List.getD_eq_getElem?_getD, List.getElem?_eq_getElem (show q < (perf secs (pend.take j)).length by omega), Option.getD_some] at hS
          exact fin_T hS (norm_s _) (norm_w []) rfl
        · rw [if_pos rfl] at hal
          obtain ⟨rfl, hl⟩ := hal
          rw [if_neg hl, List.take_length] at *
          simp only [c1, normRows_strs, List.take_length, Qs, if_true, if_false, List.append_nil, List.nodup_nil, List.nodup_cons, Nat.reduceAdd, Nat.reduceLeDiff, Nat.reduceLT, Nat.reduceBEq, List.not_mem_nil, id @f29r1.eq_1, uu f29b2.eq_1, id @f29r3.eq_1, uu f29b4.eq_1, id @f29r5.eq_1, uu f29b6.eq_1, uu f29b7.eq_1, id @f29r8.eq_1, uu f29b9.eq_1, uu f29b16.eq_1, id @f29r17.eq_1, uu f29b18.eq_1, uu f29b19.eq_1, uu f29b26.eq_1, uu f29b27.eq_1, id @f29r28.eq_1, uu f29b29.eq_1]
          have c5 : IntKind.i64.wrap (left - pend.length) = left - pend.length := wrap_in (by omega) (by omega)
          rw [c5]
          refine ⟨fun h0 => ?_, fun h0 => ?_⟩
          · rw [if_pos h0] at hS
            exact fin_K hS rfl rfl (norm_s' _ _) (norm_w [] : _) rfl
          · rw [if_neg h0] at hS
            obtain rfl : left = -1 := by omega
            exact fin_K hS rfl rfl (norm_s' _ _) (norm_w [] : _) rfl
    simp only [normRows_strs, normRows_wrs, Qs, if_true, if_false, Nat.reduceAdd, Nat.reduceBEq, Int.reduceBNe, id @f29r44.eq_1, uu f29b45.eq_1, uu f29b48.eq_1, id @f29r49.eq_1, uu f29b50.eq_1]
    refine call_r c36 ?_
    simp only [wrs_len, normRows_strs, normRows_wrs, Qs, q_exL_eq_19, q_vLen_eq_1, q_cutL_eq_1, q_vSlice_eq_1, q_V_toks_eq_1, q_K_toks_eq_5, q_K_regs_eq_1, q_K_regs_eq_2, q_K_regs_eq_3, q_freesL_eq_2, q_addsL_eq_2, if_true, if_false, true_or, or_true, bne_iff_ne, ne_eq, Int.reduceNeg, List.append_nil, Nat.reduceAdd, Nat.reduceMul, Nat.reduceEqDiff, Nat.reduceLeDiff, Nat.reduceBEq, Int.reduceLE, z_V_k, z_V_agg, z_K_c, z_O_var, z_O_arr, z_frzT, z_frzO, q_awl_eq_14, z_agF2, z_V_agk, z_K_own_arr, z_K_ptr_arr, uu f29b31.eq_1, id @f29r32.eq_1, uu f29b33.eq_1, uu f29b34.eq_1, id @f29r35.eq_1, uu f29b36.eq_1, id @f29r37.eq_1, uu f29b38.eq_1, uu f29b39.eq_1, id @f29r40.eq_1, uu f29b41.eq_1, id @f29r42.eq_1, uu f29b43.eq_1]
    rw [show (List.take pend.length (wrs pend)) = wrs (pend.take pend.length) from (List.map_take ..).symm]
    rw [wrs_len, List.length_take, Nat.min_self]
    refine ⟨fun h1 => ⟨by omega, key pend.length true _ _ (Nat.le_refl _) rfl rfl (by rw [if_pos rfl]; omega)⟩, fun h1 => ⟨fun h2 => ⟨by omega, ?_⟩, fun h2 => ?_⟩⟩
    · rw [show decide (left ≥ (pend.length : Int)) = true from decide_eq_true h2]
      exact key pend.length true _ _ (Nat.le_refl _) rfl rfl (by rw [if_pos rfl]; omega)
    · obtain ⟨k, rfl⟩ : ∃ k : Nat, left = k := ⟨left.toNat, by omega⟩
      rw [show decide ((k : Int) ≥ (pend.length : Int)) = false from decide_eq_false h2, Int.toNat_natCast, show (List.take k (wrs pend)) = wrs (pend.take k) from (List.map_take ..).symm, wrs_len, List.length_take, Nat.min_eq_left (by omega)]
      exact ⟨by omega, key k false _ _ (by omega) rfl rfl (by rw [if_neg (by simp)]; exact ⟨rfl, by omega⟩)⟩
  · simp only [normRows_strs, normRows_wrs, Qs, if_true, List.append_nil, List.nodup_nil, Nat.reduceAdd, Nat.reduceLT, Nat.reduceBEq, Int.reduceBNe, id @f29r46.eq_1, uu f29b47.eq_1, uu f29b48.eq_1, id @f29r49.eq_1, uu f29b50.eq_1]
    exact fin_T hS (secs := []) (pend := []) rfl rfl rfl
end Go.Abs


set_option maxRecDepth 100000
set_option maxHeartbeats 4000000
namespace Go.Abs
open Go.Proofs Go.Wire Go.RowKit Go.Jr
def numV (r : Option Nat) : V := match r with
  | some n => .tup [.int .i64 n, .bool true]
  | none => .tup [.int .i64 0, .bool false]
theorem valD_snoc (l : Txt) (c : UInt8) : valD (l ++ [c]) = valD l * 10 + (c.toNat - 48) := by simp [valD, List.foldl_append]
theorem valD_lt : ∀ (k : Nat) (l : Txt), l.length = k → l.all isDig = true → valD l < 10 ^ k
  | 0, l, h, _ => by
    obtain rfl : l = [] := List.eq_nil_of_length_eq_zero h
    simp [valD]
  | k + 1, l, h, hd => by
    obtain ⟨l', c, rfl⟩ : ∃ l' c, l = l' ++ [c] := ⟨l.dropLast, l.getLast (by rintro rfl; simp at h), (List.dropLast_concat_getLast _).symm⟩
    rw [List.all_append, Bool.and_eq_true] at hd
    have h2 : isDig c = true := by simpa using hd.2
    simp only [isDig, decide_eq_true_eq] at h2
    have := valD_lt k l' (by simpa using h) hd.1
    rw [valD_snoc, Nat.pow_succ]
    omega
theorem take_snoc {s : Txt} {i : Nat} (h : i < s.length) : s.take (i + 1) = s.take i ++ [s.getD i 0] := by
  rw [List.take_add_one, List.getD_eq_getElem?_getD, List.getElem?_eq_getElem h]; rfl
theorem b40 (s : Txt) (h : s.length = 16) : Spec Tryd.prog 40 [.str s] (fun r => r = numV (numT s)) := by
  refine Spec.of_awlS hf40 okf40 (by simp) fun S hS => ?_
  unfold numT at hS
  have b1 : (8 : Int) ≤ s.length := by omega
  simp only [b1, h, Qs, List.append_nil, List.nodup_nil, Nat.reduceBEq, Int.reduceLE, Int.reduceToNat, uu f40.eq_1, uu f40b20.eq_1, id @f40r21.eq_1, uu f40b22.eq_1, uu f40b23.eq_1, id @f40r24.eq_1, uu f40b25.eq_1, id @f40r26.eq_1, uu f40b27.eq_1, uu f40b28.eq_1, id @f40r29.eq_1, uu f40b30.eq_1, uu f40b31.eq_1, id @f40r32.eq_1, uu f40b33.eq_1]
  rw [List.take_of_length_le (by omega : s.length ≤ 16)]
  refine ⟨fun he => ?_, fun he => ?_⟩
  · rw [uf40l19]
    refine awl_loop (fun i : Nat => [(0, .str s), (4, .int .i64 (valD (s.take i) : Nat)), (11, .int .i64 i)]) (fun _ => [])
      (fun i => i ≤ 8 ∧ (s.take i).all isDig = true) (fun i => 8 - i) 0 rfl rfl ⟨by decide, rfl⟩ ?_
    rintro i ⟨hi, hd⟩
    by_cases hlt : i < 8
    · have c1 : (i : Int) < 8 := by omega
      have c2 : (i : Int) < s.length := by omega
      have c4 : IntKind.i64.wrap ((i : Int) + 1) = (i : Int) + 1 := wrap_in (by omega) (by omega)
      simp only [c1, c2, c4, h, Qs, q_AOp_dst_eq_24, q_exL_eq_16, q_exL_eq_25, q_vConv_eq_1, q_vSidx_eq_1, if_true, if_false, List.append_nil, List.nodup_nil, Nat.reduceBEq, id @f40r3.eq_1, id @f40r4.eq_1, id @f40r5.eq_1, uu f40b6.eq_1, uu f40b7.eq_1, id @f40r8.eq_1, uu f40b9.eq_1, uu f40b10.eq_1, id @f40r11.eq_1, uu f40b12.eq_1, uu f40b13.eq_1, uu f40b14.eq_1, uu f40b15.eq_1, uu f40b16.eq_1, id @f40r17.eq_1, uu f40b18.eq_1]
      have hts := take_snoc (s := s) (i := i) (by omega)
      have hval : (valD (s.take i)) < 10 ^ i := valD_lt i _ (by rw [List.length_take]; omega) hd
      have hval8 : valD (s.take i) < 100000000 := Nat.lt_of_lt_of_le hval (Nat.pow_le_pow_right (n := 10) (by decide) hi)
      have hmem : isDig (s.getD i 0) = false → (s.take 8).all isDig = false := by
        intro hc
        rw [List.all_eq_false]
        refine ⟨s.getD i 0, ?_, by rw [hc]; simp⟩
        rw [List.getD_eq_getElem?_getD, List.getElem?_eq_getElem (show i < s.length by omega), Option.getD_some, List.mem_take_iff_getElem]
        exact ⟨i, by omega, rfl⟩
      generalize hcc : s.getD i 0 = c at hts hmem
      generalize hm : valD (s.take i) = m at hval8 ⊢
      have hbad : isDig c = false → S (V.tup [V.k (K.c (C.int IntKind.i64 0)), V.k (K.c (C.bool false))]) := by
        intro hc
        rw [if_neg (fun h => by rw [hmem hc] at h; exact absurd h.2 (by simp))] at hS
        exact hS
      refine ⟨by omega, fun g => hbad ?_, fun g1 => ⟨by omega, fun g => hbad ?_, fun g2 => ⟨by omega, ?_⟩⟩⟩
      · simp [isDig]; omega
      · simp [isDig]; omega
      · have w1 : IntKind.u8.wrap ((c.toNat : Int) - 48) = (c.toNat : Int) - 48 := by unfold IntKind.wrap; simp [IntKind.signed, IntKind.bits]; omega
        have w2 : IntKind.i64.wrap ((c.toNat : Int) - 48) = (c.toNat : Int) - 48 := wrap_in (by omega) (by omega)
        have w3 : IntKind.i64.wrap (10 * (m : Int)) = 10 * (m : Int) := wrap_in (by omega) (by omega)
        have w4 : IntKind.i64.wrap (10 * (m : Int) + ((c.toNat : Int) - 48)) = ((m * 10 + (c.toNat - 48) : Nat) : Int) := by rw [wrap_in (by omega) (by omega)]; omega
        have e : m * 10 + (c.toNat - 48) = valD (s.take (i + 1)) := by rw [hts, valD_snoc, hm]
        have hd2 : (s.take (i + 1)).all isDig = true := by
          rw [hts, List.all_append, hd]
          simp [isDig]
          omega
        rw [w1, w2, w3, w4, e]
        exact Next.intro (i + 1) rfl rfl ⟨by omega, hd2⟩ (by omega)
    · obtain rfl : i = 8 := by omega
      have c1 : ¬ ((8 : Nat) : Int) < 8 := by omega
      simp only [c1, Qs, if_true, List.append_nil, List.nodup_nil, Nat.reduceBEq, Int.reduceLT, id @f40r1.eq_1, uu f40b2.eq_1, uu f40b15.eq_1, uu f40b16.eq_1, id @f40r17.eq_1, uu f40b18.eq_1]
      rw [if_pos ⟨he, hd⟩] at hS
      exact hS
  · rw [if_neg (fun h => he h.1)] at hS
    exact hS
end Go.Abs


set_option maxRecDepth 100000
set_option maxHeartbeats 4000000
namespace Go.Abs
open Go.Proofs Go.Wire Go.RowKit Go.Jr
theorem callQ_R {P : Program} {f : FuncId} {vs args : List V} {r : V} {K : KK} {d : Nat} {ts : TS} {os : OS} (hs : Spec P f args (fun r' => r' = r)) (hk : K (insT d r.fz ts) os)
    (hp : vs.all (fun v => (lendL os v).isPure) = true) (ha : vs.map (fun v => (lendL os v).norm) = args) (ht : vs.all (fun v => v.toks.isEmpty) = true) : callQK P f vs [] K d ts os :=
  ⟨hp, r, by simpa [ha] using hs, .inr ht, hk⟩
theorem right_push {secs : List Txt} {pend : List Wr} {left : Int} {i : Int} {t : Txt} (h : Right ⟨secs, pend, left, false⟩) (h0 : 0 ≤ i) (h1 : i < secs.length) (ht : t.length = 16) (hp : pend.length < 512) : Right ⟨secs, pend ++ [⟨i, t⟩], left, false⟩ := by
  refine ⟨h.lo, h.hi, ?_, h.l0, h.l1, fun h => (by cases h), h.se, fun w hw => ?_⟩
  · show (pend ++ [_]).length ≤ 512
    rw [List.length_append, List.length_singleton]; omega
  · rcases List.mem_append.1 hw with hw | hw
    · exact h.wr w hw
    · simp at hw; subst hw; exact ⟨h0, h1, ht⟩
theorem b17 (d : Disk) (h : Right d) : Spec Tryd.prog 17 [dV d] (fun r => r = resD (formatJ d)) := by
  refine Spec.of_awlP hf17 okf17 (by simp) fun S hS => ?_
  have c33 := b33 d h
  obtain ⟨secs, pend, left, down⟩ := d
  unfold formatJ at hS
  simp only [dV, encD] at *
  simp only [normRows_strs, normRows_wrs, Qs, if_true, bne_iff_ne, ne_eq, Nat.reduceAdd, Nat.reduceEqDiff, Nat.reduceBEq, uu f17.eq_1, id @f17r29.eq_1, uu f17b30.eq_1, uu f17b31.eq_1, id @f17r32.eq_1, uu f17b33.eq_1]
  refine call_s c33 ?_
  by_cases hr : readyD ⟨secs, pend, left, down⟩ = 0
  · rw [if_neg (by simp [hr])] at hS
    by_cases h2 : (secs.length : Int) ≤ 2
    · simp only [hr, h2, strs_len, normRows_strs, normRows_wrs, Qs, if_true, if_false, List.append_nil, List.nodup_nil, Nat.reduceAdd, Nat.reduceLeDiff, Nat.reduceLT, Nat.reduceBEq, Int.reduceBNe, id @f17r18.eq_1, uu f17b19.eq_1, uu f17b20.eq_1, id @f17r21.eq_1, uu f17b22.eq_1, uu f17b23.eq_1, uu f17b26.eq_1, id @f17r27.eq_1, uu f17b28.eq_1]
      rw [if_pos (show secs.length ≤ 2 by omega)] at hS
      exact fin_T hS (secs := []) (pend := []) rfl rfl rfl
    · rw [if_neg (show ¬ secs.length ≤ 2 by omega)] at hS
      simp only [hr, h2, strs_len, normRows_strs, normRows_wrs, Qs, if_true, if_false, Nat.reduceAdd, Nat.reduceLeDiff, Nat.reduceBEq, Int.reduceBNe, uu f17b14.eq_1, id @f17r15.eq_1, uu f17b16.eq_1, uu f17b17.eq_1, uu f17b20.eq_1, id @f17r21.eq_1, uu f17b22.eq_1, uu f17b23.eq_1, uu f17b26.eq_1, id @f17r27.eq_1, uu f17b28.eq_1]
      obtain ⟨hdn, rfl⟩ : down = false ∧ pend = [] := by
        unfold readyD at hr
        simp only [] at hr
        cases down
        · refine ⟨rfl, ?_⟩
          by_cases hp : pend = []
          · exact hp
          · rw [if_neg (by simp), if_neg hp] at hr; cases hr
        · simp at hr
      subst hdn
      obtain ⟨D, hD0, hD1, hD2⟩ : ∃ D : Nat → List Wr, D 0 = [] ∧ D 1 = [⟨0, hdr 0⟩] ∧ D 2 = [⟨0, hdr 0⟩, ⟨1, hdr 0⟩] := ⟨fun i => List.take i [⟨0, hdr 0⟩, ⟨1, hdr 0⟩], rfl, rfl, rfl⟩
      have hlen : (hdr 0).length = 16 := hdr_len 0
      have hR0 : Right ⟨secs, D 0, left, false⟩ := by rw [hD0]; exact h
      have hR1 : Right ⟨secs, D 1, left, false⟩ := by rw [hD1]; exact right_push h (by omega) (by omega) hlen (by simp)
      have hR2 : Right ⟨secs, D 2, left, false⟩ := by rw [hD2]; exact right_push (pend := [⟨0, hdr 0⟩]) (by rw [← hD1]; exact hR1) (by omega) (by omega) hlen (by simp)
      have hw : ∀ i, i < 2 → Right ⟨secs, D i, left, false⟩ ∧ writeD ⟨secs, D i, left, false⟩ i (hdr 0) = (⟨secs, D (i + 1), left, false⟩, 0) := by
        intro i hi
        rcases (by omega : i = 0 ∨ i = 1) with rfl | rfl
        · refine ⟨hR0, ?_⟩
          rw [writeD_ok rfl (by omega) (by show (0 : Int) < secs.length; omega) (by omega) (by rw [hD0]; simp)]
          rw [pad_hdr]
          show ((⟨secs, D 0 ++ [⟨0, hdr 0⟩], left, false⟩ : Disk), (0 : Int)) = (⟨secs, D 1, left, false⟩, 0)
          rw [hD0, hD1]; rfl
        · refine ⟨hR1, ?_⟩
          rw [writeD_ok rfl (by omega) (by show (1 : Int) < secs.length; omega) (by omega) (by rw [hD1]; simp)]
          rw [pad_hdr]
          show ((⟨secs, D 1 ++ [⟨1, hdr 0⟩], left, false⟩ : Disk), (0 : Int)) = (⟨secs, D 2, left, false⟩, 0)
          rw [hD1, hD2]; rfl
      rw [uf17l13]
      refine awl_loop (fun i : Nat => [(1, .k (.ptr 1 0)), (2, .k (.ptr 2 0)), (17, .int .i64 i)]) (fun i => [(1, objC secs (D i) left false), (2, .var 27 [.c (.list 0 (some true) []), .c (.list 0 (some true) []), .c (.int .i64 0), .c (.bool false)])])
        (fun i => i ≤ 2) (fun i => 2 - i) 0 rfl (by rw [hD0]; rfl) (by decide) ?_
      intro i hi
      by_cases hlt : i < 2
      · have c1 : (i : Int) < 2 := by omega
        have c4 : IntKind.i64.wrap ((i : Int) + 1) = (i : Int) + 1 := wrap_in (by omega) (by omega)
        obtain ⟨hRi, hwi⟩ := hw i hlt
        simp only [c1, c4, Qs, if_true, Nat.reduceAdd, Nat.reduceBEq, id @f17r3.eq_1, id @f17r4o0.eq_1, id @f17r4o1.eq_1, id @f17r4o2.eq_1, id @f17r4o3.eq_1, id @f17r4o4.eq_1, id @f17r4o5.eq_1, id @f17r4o6.eq_1, id @f17r4o7.eq_1, utf17r4, id @f17r5.eq_1, uu f17b6.eq_1, uu f17b7.eq_1, uu f17b8.eq_1, uu f17b9.eq_1, uu f17b10.eq_1, id @f17r11.eq_1, uu f17b12.eq_1]
        refine ⟨rfl, _, s30 0 (by decide), .inl rfl, ?_⟩
        simp only [c1, c4, Qs, Nat.reduceBEq]
        refine callQ_R (b28 _ hRi i (hdr 0)) ?_ rfl (by simp [lendL, V.norm, C.normRow, dV, encD, norm_list, norm_lst, normRows_strs, normRows_wrs]) rfl
        rw [hwi]
        simp only [resD, dV, encD, normRows_strs, normRows_wrs, c1, c4, Qs, if_true, List.append_nil, Nat.reduceAdd, Nat.reduceBEq]
        exact Next.intro (i + 1) rfl rfl (by omega) (by omega)
      · obtain rfl : i = 2 := by omega
        have c1 : ¬ ((2 : Nat) : Int) < 2 := by omega
        simp only [c1, Qs, if_true, Nat.reduceAdd, Nat.reduceBEq, Int.reduceLT, id @f17r1.eq_1, uu f17b2.eq_1, uu f17b9.eq_1, uu f17b10.eq_1, id @f17r11.eq_1, uu f17b12.eq_1]
        have c29 := b29 _ hR2
        simp only [dV, encD] at c29
        refine call_r c29 ?_
        have e0 : writeD ⟨secs, [], left, false⟩ 0 (hdr 0) = (⟨secs, D 1, left, false⟩, 0) := by have := (hw 0 (by decide)).2; rw [hD0] at this; exact this
        have e1 : writeD ⟨secs, D 1, left, false⟩ 1 (hdr 0) = (⟨secs, D 2, left, false⟩, 0) := (hw 1 (by decide)).2
        rw [e0] at hS
        simp only [] at hS
        rw [e1] at hS
        simp only [] at hS
        generalize flushD ⟨secs, D 2, left, false⟩ = x at hS ⊢
        obtain ⟨⟨xs, xp, xl, xb⟩, xe⟩ := x
        simp only [resD, dV, encD, normRows_strs, normRows_wrs, Qs, if_true, List.append_nil, List.nodup_nil, Nat.reduceAdd, Nat.reduceMul, Nat.reduceLT, Nat.reduceBEq]
        exact fin_T hS (norm_s _) (norm_w _) rfl
  · have hr1 : (readyD ⟨secs, pend, left, down⟩ != 0) = true := by simpa using hr
    simp only [hr1, normRows_strs, normRows_wrs, Qs, if_true, List.append_nil, List.nodup_nil, Nat.reduceAdd, Nat.reduceLT, Nat.reduceBEq, id @f17r24.eq_1, uu f17b25.eq_1, uu f17b26.eq_1, id @f17r27.eq_1, uu f17b28.eq_1]
    rw [if_pos hr] at hS
    exact fin_T hS (secs := []) (pend := []) rfl rfl rfl
end Go.Abs


set_option maxRecDepth 100000
set_option maxHeartbeats 4000000
namespace Go.Abs
open Go.Proofs Go.Wire Go.RowKit Go.Jr
def resC (x : Con × Int) : V := .tup [.agg [lstC 1 (strs x.1.list), .str x.1.bytes, .int .i64 x.1.cur], .int .i64 x.2]
theorem fin_C {S : V → Prop} {X : V} (h : ∀ r, r.fz.nrm = X → S r) {c1 : C} {b : Txt} {cur e : Int} {l : List Txt} (h1 : c1.norm = lstC 1 (strs l)) (hX : X = resC (⟨l, b, cur⟩, e)) : S (.tup [.agg [c1, .str b, .int .i64 cur], .k (.c (.int .i64 e))]) := by
  refine h _ ?_
  simp only [V.fz, V.nrm, V.fzL, V.nrmL, Abs.K.fz, Abs.K.nrm, C.normRow, h1, norm_int, norm_str, hX, resC]
theorem fin_CK {S : V → Prop} {X : V} (h : ∀ r, r.fz.nrm = X → S r) {k1 : K} {c1 : C} {b : Txt} {cur e : Int} {l : List Txt} (e1 : k1.fz = .c c1) (h1 : c1.norm = lstC 1 (strs l)) (hX : X = resC (⟨l, b, cur⟩, e)) : S (.tup [.agk [k1, .c (.str b), .c (.int .i64 cur)], .k (.c (.int .i64 e))]) := by
  refine h _ ?_
  have : V.fz (.agk [k1, .c (.str b), .c (.int .i64 cur)]) = .agg [c1, .str b, .int .i64 cur] := by
    simp only [V.fz, List.map_cons, List.map_nil, e1]; rfl
  rw [show (V.tup [V.agk [k1, .c (.str b), .c (.int .i64 cur)], V.k (K.c (C.int IntKind.i64 e))]).fz = .tup [V.fz (.agk [k1, .c (.str b), .c (.int .i64 cur)]), .k (.c (.int .i64 e))] from rfl, this]
  simp only [V.nrmL, V.nrm, C.normRow, h1, norm_int, norm_str, hX, resC, Abs.K.nrm]
def obR (bytes : Txt) (cur : Int) : List Txt → OS
  | [] => [(2, .var 53 [.c (.list 0 (some true) []), .c (.str []), .c (.int .i64 0)]), (5, .var 53 [.c (.list 0 (some true) []), .c (.str bytes), .c (.int .i64 cur)])]
  | a :: l => [(2, .var 53 [.c (.list 0 (some true) []), .c (.str []), .c (.int .i64 0)]), (5, .var 53 [.own 103, .c (.str bytes), .c (.int .i64 cur)]), (103, .arr 9 1 (some false) (strs (a :: l)))]
theorem flat_16 : ∀ (l : List Txt), (∀ s ∈ l, s.length = 16) → l.flatten.length = 16 * l.length
  | [], _ => by simp
  | s :: l, h => by
    rw [List.flatten_cons, List.length_append, flat_16 l fun x hx => h x (List.mem_cons_of_mem _ hx), h s List.mem_cons_self, List.length_cons]
    omega
theorem readyD_eq {d : Disk} (h : readyD d = 0) : d.down = false ∧ d.pend = [] := by
  unfold readyD at h
  by_cases hd : d.down = true
  · rw [if_pos hd] at h; cases h
  · rw [if_neg hd] at h
    by_cases hp : d.pend = []
    · exact ⟨by simpa using hd, hp⟩
    · rw [if_neg hp] at h; cases h
theorem b27 (d : Disk) (h : Right d) : Spec Tryd.prog 27 [dV d] (fun r => r = resC (readJ d)) := by
  refine Spec.of_awlP hf27 okf27 (by simp) fun S hS => ?_
  have c33 := b33 d h
  have hse := h.se
  have hhi := h.hi
  obtain ⟨secs, pend, left, down⟩ := d
  unfold readJ logD at hS
  simp only [dV, encD] at *
  simp only [normRows_strs, normRows_wrs, Qs, if_true, bne_iff_ne, ne_eq, Nat.reduceAdd, Nat.reduceEqDiff, Nat.reduceBEq, uu f27.eq_1, id @f27r54.eq_1, uu f27b55.eq_1, uu f27b56.eq_1, id @f27r57.eq_1, uu f27b58.eq_1]
  refine call_s c33 ?_
  by_cases hr : readyD ⟨secs, pend, left, down⟩ = 0
  · rw [if_neg (by simp [hr])] at hS
    by_cases h2 : (secs.length : Int) ≤ 2
    · simp only [hr, h2, strs_len, normRows_strs, normRows_wrs, Qs, if_true, if_false, List.append_nil, List.nodup_nil, Nat.reduceAdd, Nat.reduceLeDiff, Nat.reduceLT, Nat.reduceBEq, Int.reduceBNe, id @f27r43.eq_1, uu f27b44.eq_1, uu f27b45.eq_1, id @f27r46.eq_1, uu f27b47.eq_1, uu f27b48.eq_1, uu f27b51.eq_1, id @f27r52.eq_1, uu f27b53.eq_1]
      rw [if_pos (show secs.length ≤ 2 by omega)] at hS
      exact fin_C hS (l := []) rfl rfl
    · rw [if_neg (show ¬ secs.length ≤ 2 by omega)] at hS
      have g0 := strs_at (l := secs) (i := 0) (by omega)
      have g1 := strs_at (l := secs) (i := 1) (by omega)
      have p0 : (0 : Int) < secs.length := by omega
      have p1 : (1 : Int) < secs.length := by omega
      have d0 : secs.getD 0 [] = secs[0] := by rw [List.getD_eq_getElem?_getD, List.getElem?_eq_getElem (by omega)]; rfl
      have d1 : secs.getD 1 [] = secs[1] := by rw [List.getD_eq_getElem?_getD, List.getElem?_eq_getElem (by omega)]; rfl
      rw [d0, d1] at hS
      have c0 := b40 secs[0] (hse _ (List.getElem_mem _))
      have c1 := b40 secs[1] (hse _ (List.getElem_mem _))
      have hfl := flat_16 (secs.drop 2) fun x hx => hse x (List.mem_of_mem_drop hx)
      rw [List.length_drop] at hfl
      have c41 := s41 (secs.drop 2) (by rw [List.length_drop]; omega) (by omega)
      have keyL : ∀ (N : Nat) (bytes : Txt) (cur : Int) ts os, bytes.length ≤ N → bytes.length ≤ 1000000 → keepT ts [2, 5, 11] = [(2, .k (.ptr 2 0)), (5, .k (.ptr 5 0)), (11, .str bytes)] → keepO os [2, 5, 103] = obR bytes cur [] →
          (∀ r, r.fz.nrm = resC (match pz N bytes with
          | none => (⟨[], [], 0⟩, 22)
          | some l => if l.length > 500 then (⟨[], [], 0⟩, 22) else (⟨l, bytes, cur⟩, 0)) → S r) →
          awl Tryd.prog f27l17 (AE.inBlockL 0 (AE.thenL (awl Tryd.prog f27b2 (endK [RX.cell 2 3 true, RX.t 3] S)) (endK [RX.cell 2 3 true, RX.t 3] S))) ts os := by
        intro N bytes cur ts os hN hb hts hos hS
        rw [uf27l17]
        refine awl_loop (fun x : List Txt × Txt => [(2, .k (.ptr 2 0)), (5, .k (.ptr 5 0)), (11, .str x.2)]) (fun x => obR bytes cur x.1)
          (fun x => x.2.length ≤ 1000000 ∧ x.1.length ≤ 500 ∧ ∃ k, x.2.length ≤ k ∧ (pz k x.2).map (x.1 ++ ·) = pz N bytes) (fun x => x.2.length) ([], bytes) hts hos ⟨hb, by simp, N, hN, by cases pz N bytes <;> simp⟩ ?_
        rintro ⟨acc, rest⟩ ⟨g1, g2, k, g3, g4⟩
        simp only [] at g1 g2 g3 g4
        match rest, g1, g3, g4 with
        | [], g1, g3, g4 =>
          have g5 : pz N bytes = some acc := by rw [← g4]; cases k <;> simp [pz]
          rw [g5] at hS
          simp only [if_neg (show ¬ acc.length > 500 by omega)] at hS
          cases acc with
          | nil =>
            simp only [obR, Qs, if_true, BEq.rfl, List.append_nil, List.nodup_nil, Nat.reduceAdd, Nat.reduceLT, Nat.reduceBEq, id @f27r1.eq_1, uu f27b2.eq_1, uu f27b13.eq_1, id @f27r14.eq_1, uu f27b15.eq_1, uu f27b16.eq_1]
            exact fin_C hS (l := []) rfl rfl
          | cons a l =>
            simp only [obR, Qs, if_true, BEq.rfl, List.append_nil, List.nodup_nil, List.nodup_cons, Nat.reduceAdd, Nat.reduceLT, Nat.reduceBEq, List.not_mem_nil, id @f27r1.eq_1, uu f27b2.eq_1, uu f27b13.eq_1, id @f27r14.eq_1, uu f27b15.eq_1, uu f27b16.eq_1]
            rw [normRows_strs]
            exact fin_CK hS rfl (norm_s' _ _) rfl
        | c :: t, g1, g3, g4 =>
          have hne : (c :: t : Txt) ≠ [] := by simp
          obtain ⟨k', rfl⟩ : ∃ k', k = k' + 1 := ⟨k - 1, by simp only [List.length_cons] at g3; omega⟩
          have hpz : pz (k' + 1) (c :: t) = (rS (c :: t)).bind fun p => if p.1.length > 2000 then none else (pz k' p.2).map (p.1 :: ·) := rfl
          generalize (c :: t : Txt) = rest at g1 g3 g4 hne hpz
          rw [hpz] at g4
          have c42 := w19 rest (by omega)
          have hbad : (pz N bytes = none ∨ ∃ l, pz N bytes = some l ∧ l.length > 500) → ∀ r, r.fz.nrm = resC (⟨[], [], 0⟩, 22) → S r := by
            intro hp
            rcases hp with hp | ⟨l, hp, hl⟩
            · rw [hp] at hS; exact hS
            · rw [hp] at hS; simp only [if_pos hl] at hS; exact hS
          have hloop : ∀ s r, rS rest = some (s, r) → r.length < rest.length := by
            intro s r hs
            have h1 := ((reads_S rest s r).1 hs).2
            have h2 : 1 ≤ (wS s).length := by rw [wS, List.length_append, wI, List.length_append, List.length_singleton]; omega
            rw [h1, List.length_append]; omega
          cases hs : rS rest with
          | none =>
            rw [hs] at g4
            have hb2 := hbad (.inl (by rw [← g4]; rfl))
            cases acc with
            | nil =>
              simp only [obR, hne, Qs, if_true, forall_const, List.append_nil, List.nodup_nil, Nat.reduceAdd, Nat.reduceLT, Nat.reduceBEq, id @f27r1.eq_1, uu f27b2.eq_1, id @f27r10.eq_1, uu f27b11.eq_1, uu f27b12.eq_1, uu f27b13.eq_1, id @f27r14.eq_1, uu f27b15.eq_1, uu f27b16.eq_1]
              refine call_s c42 ?_ (hr := resS_scalar _)
              simp only [hs, resS, Qs, if_true, List.append_nil, List.nodup_nil, Nat.reduceAdd, Nat.reduceLT, Nat.reduceBEq, id @f27r3.eq_1, id @f27r4.eq_1, uu f27b5.eq_1, uu f27b6.eq_1, id @f27r7.eq_1, uu f27b8.eq_1, uu f27b9.eq_1]
              exact fin_C hb2 (l := []) rfl rfl
            | cons a l =>
              simp only [obR, hne, Qs, if_true, forall_const, List.append_nil, List.nodup_nil, List.nodup_cons, Nat.reduceAdd, Nat.reduceLT, Nat.reduceBEq, List.not_mem_nil, id @f27r1.eq_1, uu f27b2.eq_1, id @f27r10.eq_1, uu f27b11.eq_1, uu f27b12.eq_1, uu f27b13.eq_1, id @f27r14.eq_1, uu f27b15.eq_1, uu f27b16.eq_1]
              refine call_s c42 ?_ (hr := resS_scalar _)
              simp only [hs, resS, Qs, if_true, List.append_nil, List.nodup_nil, Nat.reduceAdd, Nat.reduceLT, Nat.reduceBEq, id @f27r3.eq_1, id @f27r4.eq_1, uu f27b5.eq_1, uu f27b6.eq_1, id @f27r7.eq_1, uu f27b8.eq_1, uu f27b9.eq_1]
              exact fin_C hb2 (l := []) rfl rfl
          | some p =>
            obtain ⟨s, r⟩ := p
            rw [hs] at g4
            have hrl := hloop s r hs
            simp only [Option.bind_some] at g4
            by_cases h5 : (s.length : Int) > 2000
            · rw [if_pos (show s.length > 2000 by omega)] at g4
              have hb2 := hbad (.inl (by rw [← g4]; rfl))
              cases acc with
              | nil =>
                simp only [obR, hne, Qs, if_true, forall_const, List.append_nil, List.nodup_nil, Nat.reduceAdd, Nat.reduceLT, Nat.reduceBEq, id @f27r1.eq_1, uu f27b2.eq_1, id @f27r10.eq_1, uu f27b11.eq_1, uu f27b12.eq_1, uu f27b13.eq_1, id @f27r14.eq_1, uu f27b15.eq_1, uu f27b16.eq_1]
                refine call_s c42 ?_ (hr := resS_scalar _)
                simp only [hs, h5, resS, Qs, if_true, if_false, List.append_nil, List.nodup_nil, Nat.reduceAdd, Nat.reduceLT, Nat.reduceBEq, id @f27r3.eq_1, id @f27r4.eq_1, uu f27b5.eq_1, uu f27b6.eq_1, id @f27r7.eq_1, uu f27b8.eq_1, uu f27b9.eq_1]
                exact fin_C hb2 (l := []) rfl rfl
              | cons a l =>
                simp only [obR, hne, Qs, if_true, forall_const, List.append_nil, List.nodup_nil, List.nodup_cons, Nat.reduceAdd, Nat.reduceLT, Nat.reduceBEq, List.not_mem_nil, id @f27r1.eq_1, uu f27b2.eq_1, id @f27r10.eq_1, uu f27b11.eq_1, uu f27b12.eq_1, uu f27b13.eq_1, id @f27r14.eq_1, uu f27b15.eq_1, uu f27b16.eq_1]
                refine call_s c42 ?_ (hr := resS_scalar _)
                simp only [hs, h5, resS, Qs, if_true, if_false, List.append_nil, List.nodup_nil, Nat.reduceAdd, Nat.reduceLT, Nat.reduceBEq, id @f27r3.eq_1, id @f27r4.eq_1, uu f27b5.eq_1, uu f27b6.eq_1, id @f27r7.eq_1, uu f27b8.eq_1, uu f27b9.eq_1]
                exact fin_C hb2 (l := []) rfl rfl
            · rw [if_neg (show ¬ s.length > 2000 by omega)] at g4
              have g4' : (pz k' r).map ((acc ++ [s]) ++ ·) = pz N bytes := by
                rw [← g4]
                cases pz k' r <;> simp
              cases acc with
              | nil =>
                simp only [obR, hne, Qs, if_true, forall_const, List.append_nil, List.nodup_nil, Nat.reduceAdd, Nat.reduceLT, Nat.reduceBEq, id @f27r1.eq_1, uu f27b2.eq_1, id @f27r10.eq_1, uu f27b11.eq_1, uu f27b12.eq_1, uu f27b13.eq_1, id @f27r14.eq_1, uu f27b15.eq_1, uu f27b16.eq_1]
                refine call_s c42 ?_ (hr := resS_scalar _)
                simp only [hs, h5, resS, Qs, q_vLen_eq_1, q_appNK_eq_1, q_appendK_eq_2, if_true, if_false, forall_eq, bne_iff_ne, ne_eq, List.mem_cons, Nat.reduceAdd, Nat.reduceMul, Nat.reduceEqDiff, Nat.reduceLeDiff, Nat.reduceLT, Nat.reduceBEq, Int.reduceBEq, List.not_mem_nil, id @f27r3.eq_1, uu f27b6.eq_1, id @f27r7.eq_1, uu f27b8.eq_1, uu f27b9.eq_1]
                exact Next.intro ([s], r) rfl rfl ⟨by show r.length ≤ 1000000; omega, by simp, k', by show r.length ≤ k'; omega, g4'⟩ hrl
              | cons a l =>
                have hb2 : (((l.length + 1 : Nat) : Int) = 500) → ∀ r, r.fz.nrm = resC (⟨[], [], 0⟩, 22) → S r := fun h6 => hbad (by
                    rw [← g4]
                    cases pz k' r with
                    | none => exact .inl rfl
                    | some l2 => exact .inr ⟨_, rfl, by simp only [List.length_append, List.length_cons]; omega⟩)
                simp only [obR, hne, Qs, if_true, forall_const, List.append_nil, List.nodup_nil, List.nodup_cons, Nat.reduceAdd, Nat.reduceLT, Nat.reduceBEq, List.not_mem_nil, id @f27r1.eq_1, uu f27b2.eq_1, id @f27r10.eq_1, uu f27b11.eq_1, uu f27b12.eq_1, uu f27b13.eq_1, id @f27r14.eq_1, uu f27b15.eq_1, uu f27b16.eq_1]
                refine call_s c42 ?_ (hr := resS_scalar _)
                simp only [hs, h5, strs_len, resS, Qs, q_vLen_eq_2, q_lenO_eq_1, if_true, if_false, forall_eq, bne_iff_ne, ne_eq, List.append_nil, List.mem_cons, List.nodup_nil, Nat.reduceAdd, Nat.reduceEqDiff, Nat.reduceLeDiff, Nat.reduceLT, Nat.reduceBEq, Nat.succ_ne_self, List.not_mem_nil, id @f27r3.eq_1, id @f27r4.eq_1, uu f27b5.eq_1, uu f27b6.eq_1, id @f27r7.eq_1, uu f27b8.eq_1, uu f27b9.eq_1]
                simp only [List.length_cons] at g2
                refine ⟨fun h6 => fin_C (hb2 h6) (l := []) rfl rfl, fun h6 => ⟨by omega, by omega, Next.intro (a :: l ++ [s], r) rfl ?_ ⟨by show r.length ≤ 1000000; omega, by simp only [List.length_append, List.length_cons, List.length_nil]; omega, k', by show r.length ≤ k'; omega, g4'⟩ hrl⟩⟩
                simp only [obR, List.cons_append]
                rw [← List.cons_append, ← strs_snoc]
                rfl
      have key : ∀ (N : Nat) (cur : Int) (o1 o2 : Bool), (∀ r, r.fz.nrm = resC (if (o1 || o2) = false then (⟨[], [], 0⟩, 22) else if N > ((secs.drop 2).flatten).length then (⟨[], [], 0⟩, 22) else
          match pz N (((secs.drop 2).flatten).take N) with
          | none => (⟨[], [], 0⟩, 22)
          | some l => if l.length > 500 then (⟨[], [], 0⟩, 22) else (⟨l, ((secs.drop 2).flatten).take N, cur⟩, 0)) → S r) →
          awl Tryd.prog f27b31 (endK [RX.cell 2 3 true, RX.t 3] S) [(1, .k (.ptr 1 0)), (2, .k (.ptr 2 0)), (5, .k (.ptr 5 0)), (6, .int .i64 N), (7, .bool o1), (9, .bool o2)]
            [(1, objC secs pend left down), (2, .var 53 [.c (.list 0 (some true) []), .c (.str []), .c (.int .i64 0)]), (5, .var 53 [.c (.list 0 (some true) []), .c (.str []), .c (.int .i64 cur)])] := by
        intro N cur o1 o2 hS
        simp only [strs_len, Qs, q_exL_eq_19, q_V_toks_eq_1, q_K_toks_eq_5, if_false, Nat.reduceAdd, Nat.reduceLeDiff, r_vSlice_lst, r_cutS2, Int.reduceLE, Int.reduceToNat, id @f27r30.eq_1, uu f27b31.eq_1]
        refine ⟨⟨by omega, Int.le_refl _⟩, ?_⟩
        rw [show List.drop 2 (List.take secs.length (strs secs)) = strs (secs.drop 2) by rw [List.take_of_length_le (by rw [strs_len]; exact Nat.le_refl _)]; simp [strs, List.map_drop]]
        refine call_s c41 ?_ (ha := by show [V.k (K.c (C.norm (C.list 1 none (strs (secs.drop 2))))), V.k (K.c (C.str []))] = _; rw [norm_s'])
        generalize (secs.drop 2).flatten = log at hfl hS c41
        by_cases ho : (o1 || o2) = false
        · rw [if_pos ho] at hS
          obtain ⟨rfl, rfl⟩ : o1 = false ∧ o2 = false := by simpa using ho
          simp only [Qs, if_true, List.append_nil, List.nodup_nil, Nat.reduceAdd, Nat.reduceLT, Nat.reduceBEq, id @f27r24.eq_1, uu f27b25.eq_1, uu f27b26.eq_1, id @f27r27.eq_1, uu f27b28.eq_1, uu f27b29.eq_1]
          exact fin_C hS (l := []) rfl rfl
        · rw [if_neg ho] at hS
          by_cases hN : (N : Int) > log.length
          · rw [if_pos (by omega)] at hS
            cases o1 <;> cases o2
            · exact absurd rfl ho
            all_goals
              simp only [hN, Qs, if_true, if_false, List.append_nil, List.nodup_nil, Nat.reduceAdd, Nat.reduceLT, Nat.reduceBEq, id @f27r24.eq_1, uu f27b25.eq_1, uu f27b26.eq_1, id @f27r27.eq_1, uu f27b28.eq_1, uu f27b29.eq_1]
              exact fin_C hS (l := []) rfl rfl
          · rw [if_neg (by omega)] at hS
            cases o1 <;> cases o2
            · exact absurd rfl ho
            all_goals
              simp only [hN, Qs, if_true, if_false, Nat.reduceAdd, Nat.reduceLeDiff, Nat.reduceBEq, Int.reduceLE, uu f27b18.eq_1, id @f27r19.eq_1, uu f27b20.eq_1, uu f27b21.eq_1, id @f27r22.eq_1, uu f27b23.eq_1, uu f27b26.eq_1, id @f27r27.eq_1, uu f27b28.eq_1, uu f27b29.eq_1]
              exact ⟨by omega, keyL N (log.take N) cur _ _ (by rw [List.length_take]; omega) (by rw [List.length_take]; omega) rfl rfl hS⟩
      simp only [hr, h2, g0, g1, p0, p1, strs_len, normRows_strs, normRows_wrs, Qs, if_true, if_false, bne_iff_ne, ne_eq, Nat.reduceAdd, Nat.reduceEqDiff, Nat.reduceLeDiff, Nat.reduceBEq, Int.reduceLE, Int.reduceBNe, id @f27r39.eq_1, uu f27b40.eq_1, id @f27r41.eq_1, uu f27b42.eq_1, uu f27b45.eq_1, id @f27r46.eq_1, uu f27b47.eq_1, uu f27b48.eq_1, uu f27b51.eq_1, id @f27r52.eq_1, uu f27b53.eq_1]
      refine call_s c0 ?_ (hr := by unfold numV; split <;> rfl)
      cases hA : numT secs[0] with
      | none =>
        rw [hA] at hS
        simp only [numV, hr, h2, g0, g1, p0, p1, strs_len, normRows_strs, normRows_wrs, Qs, if_false, Nat.reduceAdd, Nat.reduceLeDiff, Nat.reduceBEq, Int.reduceLE, Int.reduceToNat, id @f27r37.eq_1, uu f27b38.eq_1]
        refine call_s c1 ?_ (hr := by unfold numV; split <;> rfl)
        cases hB : numT secs[1] with
        | none =>
          rw [hB] at hS
          simp only [numV, hr, h2, g0, g1, p0, p1, strs_len, normRows_strs, normRows_wrs, Qs, Nat.reduceBEq, id @f27r32.eq_1, uu f27b33.eq_1, id @f27r34.eq_1, uu f27b35.eq_1, uu f27b36.eq_1]
          exact key 0 0 false false hS
        | some m =>
          rw [hB] at hS
          simp only [numV, hr, h2, g0, g1, p0, p1, strs_len, normRows_strs, normRows_wrs, Qs, if_true, List.append_nil, Nat.reduceAdd, Nat.reduceBEq, id @f27r32.eq_1, uu f27b33.eq_1, id @f27r34.eq_1, uu f27b35.eq_1, uu f27b36.eq_1]
          exact key m 1 false true hS
      | some n =>
        rw [hA] at hS
        simp only [numV, hr, h2, g0, g1, p0, p1, strs_len, normRows_strs, normRows_wrs, Qs, if_false, Nat.reduceAdd, Nat.reduceLeDiff, Nat.reduceBEq, Int.reduceLE, Int.reduceToNat, id @f27r37.eq_1, uu f27b38.eq_1]
        refine call_s c1 ?_ (hr := by unfold numV; split <;> rfl)
        cases hB : numT secs[1] with
        | none =>
          rw [hB] at hS
          simp only [numV, hr, h2, g0, g1, p0, p1, strs_len, normRows_strs, normRows_wrs, Qs, Nat.reduceBEq, id @f27r32.eq_1, uu f27b33.eq_1, id @f27r34.eq_1, uu f27b35.eq_1, uu f27b36.eq_1]
          exact key n 0 true false hS
        | some m =>
          rw [hB] at hS
          by_cases hmn : m > n
          · have hmn' : (m : Int) > n := by omega
            simp only [numV, hr, h2, g0, g1, p0, p1, hmn', strs_len, normRows_strs, normRows_wrs, Qs, if_true, if_false, List.append_nil, Nat.reduceAdd, Nat.reduceBEq, id @f27r32.eq_1, uu f27b33.eq_1, id @f27r34.eq_1, uu f27b35.eq_1, uu f27b36.eq_1]
            simp only [curD, if_pos hmn] at hS
            exact key m 1 true true hS
          · have hmn' : ¬ (m : Int) > n := by omega
            simp only [numV, hr, h2, g0, g1, p0, p1, hmn', strs_len, normRows_strs, normRows_wrs, Qs, if_true, if_false, Nat.reduceBEq, id @f27r32.eq_1, uu f27b33.eq_1, id @f27r34.eq_1, uu f27b35.eq_1, uu f27b36.eq_1]
            simp only [curD, if_neg hmn] at hS
            exact key n 0 true true hS
  · have hr1 : (readyD ⟨secs, pend, left, down⟩ != 0) = true := by simpa using hr
    simp only [hr1, normRows_strs, normRows_wrs, Qs, if_true, List.append_nil, List.nodup_nil, Nat.reduceAdd, Nat.reduceLT, Nat.reduceBEq, id @f27r49.eq_1, uu f27b50.eq_1, uu f27b51.eq_1, id @f27r52.eq_1, uu f27b53.eq_1]
    rw [if_pos hr] at hS
    exact fin_C hS (l := []) rfl rfl
end Go.Abs


set_option maxRecDepth 100000
set_option maxHeartbeats 4000000
namespace Go.Abs
open Go.Proofs Go.Wire Go.RowKit Go.Jr
theorem b20 (d : Disk) (h : Right d) : Spec Tryd.prog 20 [dV d] (fun r => r = .tup [lst 1 (strs (readJ d).1.list), .int .i64 (readJ d).2]) := by
  refine Spec.of_awlS hf20 okf20 (by simp) fun S hS => ?_
  have c27 := b27 d h
  generalize readJ d = x at c27 hS
  obtain ⟨⟨xl, xb, xc⟩, xe⟩ := x
  obtain ⟨secs, pend, left, down⟩ := d
  simp only [dV, encD, resC] at *
  simp only [normRows_strs, normRows_wrs, Qs, q_exL_eq_2, if_true, bne_iff_ne, ne_eq, Nat.reduceAdd, Nat.reduceEqDiff, Nat.reduceBEq, uu f20.eq_1, id @f20r3.eq_1, uu f20b4.eq_1, id @f20r5.eq_1, uu f20b6.eq_1]
  refine call_r c27 ?_
  simp only [normRows_strs, normRows_wrs, Qs, if_true, if_false, bne_iff_ne, ne_eq, List.append_nil, List.nodup_nil, Nat.reduceAdd, Nat.reduceMul, Nat.reduceEqDiff, Nat.reduceLeDiff, Nat.reduceBEq, id @f20r1.eq_1, uu f20b2.eq_1]
  exact hS
theorem b24 (d : Disk) (h : Right d) : Spec Tryd.prog 24 [dV d] (fun r => r = .tup [.int .i64 (readJ d).1.list.length, .int .i64 (readJ d).2]) := by
  refine Spec.of_awlS hf24 okf24 (by simp) fun S hS => ?_
  have c27 := b27 d h
  generalize readJ d = x at c27 hS
  obtain ⟨⟨xl, xb, xc⟩, xe⟩ := x
  obtain ⟨secs, pend, left, down⟩ := d
  simp only [dV, encD, resC] at *
  simp only [normRows_strs, normRows_wrs, Qs, if_true, Nat.reduceAdd, Nat.reduceBEq, uu f24.eq_1, id @f24r3.eq_1, uu f24b4.eq_1, id @f24r5.eq_1, uu f24b6.eq_1]
  refine call_r c27 ?_
  simp only [strs_len, normRows_strs, normRows_wrs, Qs, if_true, if_false, bne_iff_ne, ne_eq, List.append_nil, List.nodup_nil, Nat.reduceAdd, Nat.reduceMul, Nat.reduceEqDiff, Nat.reduceLeDiff, Nat.reduceBEq, id @f24r1.eq_1, uu f24b2.eq_1]
  exact hS
def getJ (x : Con × Int) (i : Int) : Txt × Int := if x.2 ≠ 0 then ([], x.2) else if i < 0 ∨ i ≥ x.1.list.length then ([], 4) else (x.1.list.getD i.toNat [], 0)
theorem b22 (d : Disk) (h : Right d) (i : Int) : Spec Tryd.prog 22 [dV d, .int .i64 i] (fun r => r = .tup [.str (getJ (readJ d) i).1, .int .i64 (getJ (readJ d) i).2]) := by
  refine Spec.of_awlS hf22 okf22 (by simp) fun S hS => ?_
  have c27 := b27 d h
  generalize readJ d = x at c27 hS
  obtain ⟨⟨xl, xb, xc⟩, xe⟩ := x
  obtain ⟨secs, pend, left, down⟩ := d
  simp only [dV, encD, resC] at *
  unfold getJ at hS
  simp only [normRows_strs, normRows_wrs, Qs, if_true, Nat.reduceAdd, Nat.reduceBEq, uu f22.eq_1, id @f22r14.eq_1, uu f22b15.eq_1, id @f22r16.eq_1, uu f22b17.eq_1]
  refine call_r c27 ?_
  by_cases he : xe = 0
  · subst he
    rw [if_neg (by simp)] at hS
    by_cases h1 : i < 0
    · rw [if_pos (.inl h1)] at hS
      simp only [h1, strs_len, normRows_strs, normRows_wrs, Qs, if_true, bne_iff_ne, ne_eq, BEq.rfl, List.append_nil, List.nodup_nil, Nat.reduceAdd, Nat.reduceMul, Nat.reduceEqDiff, Nat.reduceBEq, Int.reduceBNe, id @f22r3.eq_1, uu f22b4.eq_1, uu f22b5.eq_1, id @f22r6.eq_1, uu f22b7.eq_1, uu f22b8.eq_1, id @f22r9.eq_1, uu f22b10.eq_1, id @f22r11.eq_1, uu f22b12.eq_1, uu f22b13.eq_1]
      exact hS
    · by_cases h2 : i ≥ xl.length
      · rw [if_pos (.inr h2)] at hS
        simp only [h1, h2, strs_len, normRows_strs, normRows_wrs, Qs, if_true, if_false, bne_iff_ne, ne_eq, BEq.rfl, List.append_nil, List.nodup_nil, Nat.reduceAdd, Nat.reduceMul, Nat.reduceEqDiff, Nat.reduceLeDiff, Nat.reduceBEq, Int.reduceBNe, id @f22r3.eq_1, uu f22b4.eq_1, uu f22b5.eq_1, id @f22r6.eq_1, uu f22b7.eq_1, uu f22b8.eq_1, id @f22r9.eq_1, uu f22b10.eq_1, id @f22r11.eq_1, uu f22b12.eq_1, uu f22b13.eq_1]
        exact hS
      · rw [if_neg (fun h => h.elim h1 h2)] at hS
        obtain ⟨k, rfl⟩ : ∃ k : Nat, i = k := ⟨i.toNat, by omega⟩
        have hk : k < xl.length := by omega
        rw [Int.toNat_natCast, List.getD_eq_getElem?_getD, List.getElem?_eq_getElem hk, Option.getD_some] at hS
        have h3 : (k : Int) < xl.length := by omega
        simp only [h1, h2, h3, strs_at hk, strs_len, normRows_strs, normRows_wrs, Qs, if_true, if_false, bne_iff_ne, ne_eq, BEq.rfl, List.append_nil, List.nodup_nil, Nat.reduceAdd, Nat.reduceMul, Nat.reduceEqDiff, Nat.reduceLeDiff, Nat.reduceBEq, Int.reduceBNe, id @f22r1.eq_1, uu f22b2.eq_1, uu f22b5.eq_1, id @f22r6.eq_1, uu f22b7.eq_1, uu f22b8.eq_1, id @f22r9.eq_1, uu f22b10.eq_1, id @f22r11.eq_1, uu f22b12.eq_1, uu f22b13.eq_1]
        exact hS
  · rw [if_pos he] at hS
    simp only [he, strs_len, normRows_strs, normRows_wrs, Qs, if_true, if_false, forall_const, bne_iff_ne, ne_eq, List.append_nil, List.nodup_nil, Nat.reduceAdd, Nat.reduceMul, Nat.reduceEqDiff, Nat.reduceLeDiff, Nat.reduceBEq, Int.reduceBNe, id @f22r1.eq_1, uu f22b2.eq_1, id @f22r3.eq_1, uu f22b4.eq_1, uu f22b5.eq_1, id @f22r6.eq_1, uu f22b7.eq_1, uu f22b8.eq_1, id @f22r9.eq_1, uu f22b10.eq_1, id @f22r11.eq_1, uu f22b12.eq_1, uu f22b13.eq_1]
    exact hS
end Go.Abs


set_option maxRecDepth 100000
set_option maxHeartbeats 4000000
namespace Go.Abs
open Go.Proofs Go.Wire Go.RowKit Go.Jr
theorem r32 (n : Nat) (h : n ≤ 1000000) : Spec Tryd.prog 32 [.int .i64 n] (fun r => r = .str (zeros n)) := by
  refine Spec.of_awlS hf32 okf32 (by simp) fun S hS => ?_
  simp only [Qs, uu f32.eq_1, uu f32b12.eq_1, id @f32r13.eq_1, uu f32b14.eq_1, uu f32b15.eq_1, id @f32r16.eq_1, uu f32b17.eq_1, id @f32r18.eq_1, uu f32b19.eq_1]
  rw [uf32l11]
  refine awl_loop (fun i : Nat => [(0, .int .i64 n), (3, .str (zeros i)), (4, .int .i64 i)]) (fun _ => []) (fun i => i ≤ n) (fun i => n - i) 0 rfl rfl (Nat.zero_le _) ?_
  intro i hi
  by_cases hlt : i < n
  · have c1 : (i : Int) < n := by omega
    have c4 : IntKind.i64.wrap ((i : Int) + 1) = (i : Int) + 1 := wrap_in (by omega) (by omega)
    have hz : zeros i ++ [0] = zeros (i + 1) := by rw [zeros, zeros, List.replicate_succ']
    have hl : (zeros i).length = i := by rw [zeros, List.length_replicate]
    simp only [c1, c4, hz, Qs, if_true, Nat.reduceLeDiff, Nat.reduceBEq, id @f32r3.eq_1, id @f32r4.eq_1, uu f32b5.eq_1, uu f32b6.eq_1, uu f32b7.eq_1, id @f32r8.eq_1, uu f32b9.eq_1, uu f32b10.eq_1]
    first
      | exact Next.intro (i + 1) rfl rfl (by omega) (by omega)
      | exact ⟨by rw [hl]; omega, Next.intro (i + 1) rfl rfl (by omega) (by omega)⟩
  · obtain rfl : i = n := by omega
    have c1 : ¬ (i : Int) < i := by omega
    simp only [c1, Qs, if_true, List.nodup_nil, Nat.reduceBEq, id @f32r1.eq_1, uu f32b2.eq_1, uu f32b7.eq_1, id @f32r8.eq_1, uu f32b9.eq_1, uu f32b10.eq_1]
    exact hS
theorem r39 (d : Disk) (h : Right d) : Spec Tryd.prog 39 [dV d] (fun r => r = .int .i64 0) := by
  refine Spec.of_awlS hf39 okf39 (by simp) fun S hS => ?_
  obtain ⟨secs, pend, left, down⟩ := d
  have hlo : 1 ≤ secs.length := h.lo
  have hhi : secs.length ≤ 512 := h.hi
  have hpe : pend.length ≤ 512 := h.pe
  have hl0 : -1 ≤ left := h.l0
  have hl1 : left ≤ 512 := h.l1
  have hse : ∀ s ∈ secs, s.length = 16 := h.se
  have hwr : ∀ w ∈ pend, 0 ≤ w.pos ∧ w.pos < secs.length ∧ w.text.length = 16 := h.wr
  have l0 : ¬ (secs.length : Int) < 1 := by omega
  have l1 : ¬ (secs.length : Int) > 512 := by omega
  have p1 : ¬ (pend.length : Int) > 512 := by omega
  have f0 : ¬ left < -1 := by omega
  have f1 : ¬ left > 512 := by omega
  have hpl : down = true → ¬ (pend.length : Int) > 0 ∧ (left != -1) = false := fun e => by
    obtain ⟨e1, e2⟩ := h.dn e
    have e1 : pend = [] := e1
    have e2 : left = -1 := e2
    subst e1 e2
    exact ⟨by simp, rfl⟩
  simp only [encD, strs_len, wrs_len, l0, l1, p1, f0, f1, Qs, if_true, if_false, Int.reduceNeg, Nat.reduceAdd, Nat.reduceLeDiff, Nat.reduceBEq, uu f39.eq_1, uu f39b41.eq_1, id @f39r42.eq_1, uu f39b43.eq_1, uu f39b44.eq_1, uu f39b47.eq_1, id @f39r48.eq_1, uu f39b49.eq_1, uu f39b50.eq_1, id @f39r51.eq_1, uu f39b52.eq_1]
  rw [uf39l40]
  refine awl_loop (fun i : Nat => [(1, .k (.ptr 1 0)), (3, .int .i64 i)]) (fun _ => [(1, objC secs pend left down)])
    (fun i => i ≤ secs.length) (fun i => secs.length - i) 0 rfl rfl (Nat.zero_le _) ?_
  intro i hi
  by_cases hlt : i < secs.length
  · have c1 : (i : Int) < secs.length := by omega
    have c4 : IntKind.i64.wrap ((i : Int) + 1) = (i : Int) + 1 := wrap_in (by omega) (by omega)
    have c2 := hse _ (List.getElem_mem hlt)
    simp only [strs_len, c1, c2, c4, strs_at hlt, Qs, if_true, if_false, Nat.reduceAdd, Nat.reduceLeDiff, Nat.reduceBEq, Int.reduceBNe, id @f39r28.eq_1, uu f39b31.eq_1, id @f39r32.eq_1, uu f39b33.eq_1, uu f39b34.eq_1, uu f39b35.eq_1, uu f39b36.eq_1, id @f39r37.eq_1, uu f39b38.eq_1, uu f39b39.eq_1]
    exact Next.intro (i + 1) rfl rfl (by omega) (by omega)
  · have c1 : ¬ (i : Int) < secs.length := by omega
    simp only [strs_len, wrs_len, c1, Qs, if_true, if_false, Nat.reduceAdd, Nat.reduceLeDiff, Nat.reduceBEq, uu f39b24.eq_1, id @f39r25.eq_1, uu f39b26.eq_1, uu f39b27.eq_1, uu f39b36.eq_1, id @f39r37.eq_1, uu f39b38.eq_1, uu f39b39.eq_1]
    rw [uf39l23]
    refine awl_loop (fun i : Nat => [(1, .k (.ptr 1 0)), (4, .int .i64 i)]) (fun _ => [(1, objC secs pend left down)])
      (fun i => i ≤ pend.length) (fun i => pend.length - i) 0 rfl rfl (Nat.zero_le _) ?_
    intro i hi
    by_cases hlt : i < pend.length
    · have c1 : (i : Int) < pend.length := by omega
      have c4 : IntKind.i64.wrap ((i : Int) + 1) = (i : Int) + 1 := wrap_in (by omega) (by omega)
      obtain ⟨w0, w1, w2⟩ := hwr _ (List.getElem_mem hlt)
      have c5 : ¬ pend[i].pos < 0 := by omega
      have c6 : ¬ pend[i].pos ≥ secs.length := by omega
      simp only [strs_len, wrs_len, c1, c4, c5, c6, w2, wrs_at hlt, Qs, if_true, if_false, bne_iff_ne, ne_eq, List.append_nil, Nat.reduceAdd, Nat.reduceEqDiff, Nat.reduceLeDiff, Nat.reduceBEq, Int.reduceBNe, id @f39r9.eq_1, uu f39b12.eq_1, id @f39r13.eq_1, uu f39b14.eq_1, id @f39r15.eq_1, uu f39b16.eq_1, uu f39b17.eq_1, uu f39b18.eq_1, uu f39b19.eq_1, id @f39r20.eq_1, uu f39b21.eq_1, uu f39b22.eq_1]
      exact Next.intro (i + 1) rfl rfl (by omega) (by omega)
    · have c1 : ¬ (i : Int) < pend.length := by omega
      cases down
      · simp only [wrs_len, c1, Qs, if_true, if_false, Int.reduceNeg, List.nodup_nil, Nat.reduceAdd, Nat.reduceLeDiff, Nat.reduceBEq, id @f39r1.eq_1, uu f39b2.eq_1, uu f39b5.eq_1, id @f39r6.eq_1, uu f39b7.eq_1, uu f39b8.eq_1, uu f39b19.eq_1, id @f39r20.eq_1, uu f39b21.eq_1, uu f39b22.eq_1]
        exact hS
      · obtain ⟨e1, e2⟩ := hpl rfl
        simp only [wrs_len, c1, e1, e2, Qs, if_true, if_false, Int.reduceNeg, List.nodup_nil, Nat.reduceAdd, Nat.reduceLeDiff, Nat.reduceBEq, id @f39r1.eq_1, uu f39b2.eq_1, uu f39b5.eq_1, id @f39r6.eq_1, uu f39b7.eq_1, uu f39b8.eq_1, uu f39b19.eq_1, id @f39r20.eq_1, uu f39b21.eq_1, uu f39b22.eq_1]
        exact hS
theorem r38 (d : Disk) (h : Right d) : Spec Tryd.prog 38 [dV d] (fun r => r = .int .i64 (if d.down = true then 8 else 0)) := by
  refine Spec.of_awlS hf38 okf38 (by simp) fun S hS => ?_
  have c39 := r39 d h
  obtain ⟨secs, pend, left, down⟩ := d
  simp only [dV, encD] at *
  simp only [normRows_strs, normRows_wrs, Qs, if_true, Nat.reduceAdd, Nat.reduceBEq, uu f38.eq_1, id @f38r9.eq_1, uu f38b10.eq_1, id @f38r11.eq_1, uu f38b12.eq_1]
  refine call_s c39 ?_
  cases down <;> simp only [Qs, if_true, if_false, BEq.rfl, List.nodup_nil, Nat.reduceAdd, Nat.reduceBEq, id @f38r1.eq_1, uu f38b2.eq_1, id @f38r3.eq_1, uu f38b4.eq_1, uu f38b5.eq_1, id @f38r6.eq_1, uu f38b7.eq_1, uu f38b8.eq_1] <;> exact hS
theorem r26 (d : Disk) (h : Right d) : Spec Tryd.prog 26 [dV d] (fun r => r = resD (startD d)) := by
  refine Spec.of_awlP hf26 okf26 (by simp) fun S hS => ?_
  have c39 := r39 d h
  obtain ⟨secs, pend, left, down⟩ := d
  unfold startD at hS
  simp only [dV, encD] at *
  simp only [normRows_strs, normRows_wrs, Qs, if_true, bne_iff_ne, ne_eq, Nat.reduceAdd, Nat.reduceEqDiff, Nat.reduceBEq, uu f26.eq_1, id @f26r14.eq_1, uu f26b15.eq_1, uu f26b16.eq_1, id @f26r17.eq_1, uu f26b18.eq_1]
  refine call_s c39 ?_
  cases down
  · simp only [normRows_strs, normRows_wrs, Qs, if_true, if_false, List.append_nil, List.nodup_nil, Nat.reduceAdd, Nat.reduceLT, Nat.reduceBEq, Int.reduceBNe, id @f26r5.eq_1, uu f26b6.eq_1, uu f26b7.eq_1, id @f26r8.eq_1, uu f26b9.eq_1, uu f26b10.eq_1, uu f26b13.eq_1]
    exact fin_T hS (secs := []) (pend := []) rfl rfl rfl
  · simp only [normRows_strs, normRows_wrs, Qs, if_true, if_false, List.append_nil, List.nodup_nil, Nat.reduceAdd, Nat.reduceLT, Nat.reduceBEq, Int.reduceBNe, id @f26r1.eq_1, uu f26b2.eq_1, id @f26r3.eq_1, uu f26b4.eq_1, uu f26b7.eq_1, id @f26r8.eq_1, uu f26b9.eq_1, uu f26b10.eq_1, uu f26b13.eq_1]
    exact fin_T hS (norm_s _) (norm_w _) rfl
theorem r25 (d : Disk) (h : Right d) (k : Int) : Spec Tryd.prog 25 [dV d, .int .i64 k] (fun r => r = resD (armD d k)) := by
  refine Spec.of_awlP hf25 okf25 (by simp) fun S hS => ?_
  have c38 := r38 d h
  obtain ⟨secs, pend, left, down⟩ := d
  unfold armD at hS
  simp only [dV, encD] at *
  simp only [normRows_strs, normRows_wrs, Qs, if_true, bne_iff_ne, ne_eq, Nat.reduceAdd, Nat.reduceEqDiff, Nat.reduceBEq, uu f25.eq_1, id @f25r17.eq_1, uu f25b18.eq_1, id @f25r19.eq_1, uu f25b20.eq_1]
  refine call_s c38 ?_
  cases down
  · by_cases h1 : k < 0
    · simp only [h1, normRows_strs, normRows_wrs, Qs, if_true, if_false, List.append_nil, List.nodup_nil, Nat.reduceAdd, Nat.reduceLT, Nat.reduceBEq, Int.reduceBNe, id @f25r5.eq_1, uu f25b6.eq_1, uu f25b7.eq_1, id @f25r8.eq_1, uu f25b9.eq_1, uu f25b10.eq_1, uu f25b13.eq_1, id @f25r14.eq_1, uu f25b15.eq_1, uu f25b16.eq_1]
      rw [if_neg (by simp), if_pos (.inl h1)] at hS
      exact fin_T hS (secs := []) (pend := []) rfl rfl rfl
    · by_cases h2 : k > 512
      · simp only [h1, h2, normRows_strs, normRows_wrs, Qs, if_true, if_false, List.append_nil, List.nodup_nil, Nat.reduceAdd, Nat.reduceLT, Nat.reduceBEq, Int.reduceBNe, id @f25r5.eq_1, uu f25b6.eq_1, uu f25b7.eq_1, id @f25r8.eq_1, uu f25b9.eq_1, uu f25b10.eq_1, uu f25b13.eq_1, id @f25r14.eq_1, uu f25b15.eq_1, uu f25b16.eq_1]
        rw [if_neg (by simp), if_pos (.inr h2)] at hS
        exact fin_T hS (secs := []) (pend := []) rfl rfl rfl
      · simp only [h1, h2, normRows_strs, normRows_wrs, Qs, if_true, if_false, List.append_nil, List.nodup_nil, Nat.reduceAdd, Nat.reduceLeDiff, Nat.reduceLT, Nat.reduceBEq, Int.reduceBNe, id @f25r1.eq_1, uu f25b2.eq_1, id @f25r3.eq_1, uu f25b4.eq_1, uu f25b7.eq_1, id @f25r8.eq_1, uu f25b9.eq_1, uu f25b10.eq_1, uu f25b13.eq_1, id @f25r14.eq_1, uu f25b15.eq_1, uu f25b16.eq_1]
        rw [if_neg (by simp), if_neg (fun h => h.elim h1 h2)] at hS
        exact fin_T hS (norm_s _) (norm_w _) rfl
  · simp only [normRows_strs, normRows_wrs, Qs, if_true, List.append_nil, List.nodup_nil, Nat.reduceAdd, Nat.reduceLT, Nat.reduceBEq, Int.reduceBNe, id @f25r11.eq_1, uu f25b12.eq_1, uu f25b13.eq_1, id @f25r14.eq_1, uu f25b15.eq_1, uu f25b16.eq_1]
    exact fin_T hS (secs := []) (pend := []) rfl rfl rfl
end Go.Abs


set_option maxRecDepth 100000
set_option maxHeartbeats 4000000
namespace Go.Abs
open Go.Proofs Go.Wire Go.RowKit Go.Jr
theorem r13 (d : Disk) (h : Right d) : Spec Tryd.prog 13 [dV d] (fun r => r = .str (logD d)) := by
  refine Spec.of_awlS hf13 okf13 (by simp) fun S hS => ?_
  obtain ⟨secs, pend, left, down⟩ := d
  have hhi : secs.length ≤ 512 := h.hi
  have hlo : 1 ≤ secs.length := h.lo
  have hse : ∀ s ∈ secs, s.length = 16 := h.se
  have hlen : ∀ j, (((secs.drop 2).take j).flatten).length ≤ 16 * 512 := by
    intro j
    rw [flat_16 _ fun x hx => hse x (List.mem_of_mem_drop (List.mem_of_mem_take hx)), List.length_take, List.length_drop]
    omega
  unfold logD at hS
  simp only [encD, Qs, Nat.reduceBEq, uu f13.eq_1, uu f13b12.eq_1, id @f13r13.eq_1, uu f13b14.eq_1, uu f13b15.eq_1, id @f13r16.eq_1, uu f13b17.eq_1, id @f13r18.eq_1, uu f13b19.eq_1]
  rw [uf13l11]
  refine awl_loop (fun j : Nat => [(1, .k (.ptr 1 0)), (3, .str ((secs.drop 2).take j).flatten), (4, .int .i64 (2 + j : Nat))]) (fun _ => [(1, objC secs pend left down)]) (fun j => j ≤ secs.length - 2) (fun j => secs.length - j) 0 rfl rfl (Nat.zero_le _) ?_
  intro j hj
  by_cases hlt : 2 + j < secs.length
  · have c1 : ((2 + j : Nat) : Int) < secs.length := by omega
    have c4 : IntKind.i64.wrap (((2 + j : Nat) : Int) + 1) = ((2 + (j + 1) : Nat) : Int) := by rw [wrap_in (by omega) (by omega)]; omega
    have hz : ((secs.drop 2).take j).flatten ++ secs[2 + j] = ((secs.drop 2).take (j + 1)).flatten := by
      rw [List.take_add_one, List.getElem?_drop, List.getElem?_eq_getElem hlt, List.flatten_append]; simp
    have hl := hlen j
    have hs := hse _ (List.getElem_mem hlt)
    simp only [c1, c4, strs_len, strs_at hlt, hz, Qs, if_true, if_false, Nat.reduceAdd, Nat.reduceLeDiff, Nat.reduceBEq, id @f13r3.eq_1, id @f13r4.eq_1, uu f13b5.eq_1, uu f13b6.eq_1, uu f13b7.eq_1, id @f13r8.eq_1, uu f13b9.eq_1, uu f13b10.eq_1]
    exact ⟨by omega, Next.intro (j + 1) rfl rfl (by omega) (by omega)⟩
  · have c1 : ¬ ((2 + j : Nat) : Int) < secs.length := by omega
    simp only [c1, strs_len, Qs, if_true, if_false, List.nodup_nil, Nat.reduceAdd, Nat.reduceLeDiff, Nat.reduceBEq, id @f13r1.eq_1, uu f13b2.eq_1, uu f13b7.eq_1, id @f13r8.eq_1, uu f13b9.eq_1, uu f13b10.eq_1]
    rw [List.take_of_length_le (by rw [List.length_drop]; omega)]
    exact hS
def obN : Nat → OS
  | 0 => [(2, .var 27 [.c (.list 0 (some true) []), .c (.list 0 (some true) []), .c (.int .i64 0), .c (.bool false)]), (4, .var 27 [.c (.list 0 (some true) []), .c (.list 0 (some true) []), .c (.int .i64 (-1)), .c (.bool false)])]
  | i + 1 => [(2, .var 27 [.c (.list 0 (some true) []), .c (.list 0 (some true) []), .c (.int .i64 0), .c (.bool false)]), (4, .var 27 [.own 23, .c (.list 0 (some true) []), .c (.int .i64 (-1)), .c (.bool false)]), (23, .arr 9 1 (some false) (strs (List.replicate (i + 1) (zeros 16))))]
theorem r16 (n : Nat) (h0 : 1 ≤ n) (h : n ≤ 512) : Spec Tryd.prog 16 [.int .i64 n] (fun r => r = resD (newD n, 0)) := by
  refine Spec.of_awlP hf16 okf16 (by simp) fun S hS => ?_
  have l0 : ¬ (n : Int) < 1 := by omega
  have l1 : ¬ (n : Int) > 512 := by omega
  simp only [l0, l1, Qs, q_vBuild_eq_2, if_true, if_false, bne_iff_ne, ne_eq, Int.reduceNeg, List.append_nil, Nat.reduceAdd, Nat.reduceEqDiff, Nat.reduceLeDiff, Nat.reduceBEq, uu f16.eq_1, uu f16b12.eq_1, id @f16r13.eq_1, uu f16b14.eq_1, uu f16b15.eq_1, id @f16r16.eq_1, uu f16b17.eq_1, uu f16b20.eq_1, id @f16r21.eq_1, uu f16b22.eq_1, uu f16b23.eq_1, id @f16r24.eq_1, uu f16b25.eq_1]
  rw [uf16l11]
  refine awl_loop (fun i : Nat => [(0, .int .i64 n), (2, .k (.ptr 2 0)), (4, .k (.ptr 4 0)), (5, .int .i64 i)]) obN (fun i => i ≤ n) (fun i => n - i) 0 rfl rfl (Nat.zero_le _) ?_
  intro i hi
  by_cases hlt : i < n
  · have c1 : (i : Int) < n := by omega
    have c4 : IntKind.i64.wrap ((i : Int) + 1) = (i : Int) + 1 := wrap_in (by omega) (by omega)
    cases i with
    | zero =>
      have c0 : (0 : Int) < n := by omega
      simp only [obN, c0, Qs, if_true, if_false, Int.reduceNeg, Nat.reduceAdd, Nat.reduceLeDiff, Nat.reduceBEq, id @f16r3.eq_1, id @f16r4.eq_1, uu f16b5.eq_1, uu f16b6.eq_1, uu f16b7.eq_1, id @f16r8.eq_1, uu f16b9.eq_1, uu f16b10.eq_1]
      refine ⟨rfl, _, r32 16 (by decide), .inl rfl, ?_⟩
      simp only [c0, Qs, q_exLQ_eq_8, q_exLQ_eq_36, q_bsQ_eq_1, q_srcV_eq_1, q_appNK_eq_1, q_appendK_eq_2, if_true, reduceCtorEq, forall_eq, bne_iff_ne, ne_eq, Int.reduceNeg, List.mem_cons, Nat.reduceAdd, Nat.reduceMul, Nat.reduceEqDiff, Nat.reduceLeDiff, Nat.reduceLT, Nat.reduceBEq, Int.reduceAdd, List.not_mem_nil]
      exact Next.intro 1 rfl rfl (by omega) (by omega)
    | succ i =>
      simp only [obN, c1, c4, Qs, if_true, if_false, Int.reduceNeg, Nat.reduceAdd, Nat.reduceLeDiff, Nat.reduceBEq, id @f16r3.eq_1, id @f16r4.eq_1, uu f16b5.eq_1, uu f16b6.eq_1, uu f16b7.eq_1, id @f16r8.eq_1, uu f16b9.eq_1, uu f16b10.eq_1]
      refine ⟨rfl, _, r32 16 (by decide), .inl rfl, ?_⟩
      simp only [strs_len, List.length_replicate, c1, c4, Qs, q_exLQ_eq_8, q_exLQ_eq_36, q_bsQ_eq_1, q_srcV_eq_1, if_true, if_false, reduceCtorEq, forall_eq, Int.reduceNeg, List.mem_cons, Nat.reduceAdd, Nat.reduceEqDiff, Nat.reduceLeDiff, Nat.reduceLT, Nat.reduceBEq, List.not_mem_nil]
      refine ⟨by omega, by omega, Next.intro (i + 2) rfl ?_ (by omega) (by omega)⟩
      have e : strs (zeros 16 :: List.replicate i (zeros 16)) ++ [[C.str (zeros 16)]] = strs (List.replicate (i + 1 + 1) (zeros 16)) := by
        have := strs_snoc (List.replicate (i + 1) (zeros 16)) (zeros 16)
        rw [← List.replicate_succ'] at this
        exact this
      rw [e]
      rfl
  · obtain rfl : i = n := by omega
    have c1 : ¬ (i : Int) < i := by omega
    cases i with
    | zero => omega
    | succ i =>
      simp only [obN, c1, normRows_strs, Qs, if_true, Int.reduceNeg, List.append_nil, List.nodup_nil, List.nodup_cons, Nat.reduceAdd, Nat.reduceLT, Nat.reduceBEq, List.not_mem_nil, id @f16r1.eq_1, uu f16b2.eq_1, uu f16b7.eq_1, id @f16r8.eq_1, uu f16b9.eq_1, uu f16b10.eq_1]
      exact fin_K hS rfl rfl (norm_s' _ _) (norm_w []) rfl
theorem r14 (n : Nat) (h : n < 100000000) : Spec Tryd.prog 14 [.int .i64 n] (fun r => r = .str (hdr n)) := by
  refine Spec.of_awlS hf14 okf14 (by simp) fun S hS => ?_
  simp only [Qs, uu f14.eq_1, uu f14b16.eq_1, id @f14r17.eq_1, uu f14b18.eq_1, uu f14b19.eq_1, id @f14r20.eq_1, uu f14b21.eq_1, id @f14r22.eq_1, uu f14b23.eq_1]
  rw [uf14l15]
  refine awl_loop (fun k : Nat => [(0, .int .i64 (n / 10 ^ k : Nat)), (3, .str (dig k n)), (4, .int .i64 k)]) (fun _ => []) (fun k => k ≤ 8) (fun k => 8 - k) 0 (by simp [keepT, lookT, dig]) rfl (by decide) ?_
  intro k hk
  by_cases hlt : k < 8
  · have c1 : (k : Int) < 8 := by omega
    have c4 : IntKind.i64.wrap ((k : Int) + 1) = (k : Int) + 1 := wrap_in (by omega) (by omega)
    have hd := dig_cons k n
    have hm : n / 10 ^ (k + 1) = n / 10 ^ k / 10 := by rw [Nat.div_div_eq_div_mul, Nat.pow_succ]
    have hle : n / 10 ^ k ≤ n := Nat.div_le_self _ _
    generalize n / 10 ^ k = m at hd hm hle ⊢
    simp only [c1, c4, Qs, q_cutInt_eq_4, q_cutInt_eq_5, if_true, ne_eq, Nat.reduceAdd, Nat.reduceBEq, Int.reduceEq, id @f14r3.eq_1, id @f14r4.eq_1, id @f14r5.eq_1, uu f14b6.eq_1, id @f14r7.eq_1, uu f14b8.eq_1, uu f14b9.eq_1, uu f14b10.eq_1, uu f14b11.eq_1, id @f14r12.eq_1, uu f14b13.eq_1, uu f14b14.eq_1]
    have ht : (m : Int).tmod 10 = ((m % 10 : Nat) : Int) := by rw [Int.tmod_eq_emod_of_nonneg (by omega)]; omega
    have hq : (m : Int).tdiv 10 = ((m / 10 : Nat) : Int) := by rw [Int.tdiv_eq_ediv_of_nonneg (by omega)]; omega
    have w1 : IntKind.i64.wrap (((m % 10 : Nat) : Int) + 1) = ((m % 10 + 1 : Nat) : Int) := by rw [wrap_in (by omega) (by omega)]; omega
    have w2 : IntKind.i64.wrap ((m / 10 : Nat) : Int) = ((m / 10 : Nat) : Int) := wrap_in (by omega) (by omega)
    rw [ht, hq, w1, w2, Int.toNat_natCast, Int.toNat_natCast]
    have hj : m % 10 < 10 := Nat.mod_lt _ (by decide)
    generalize m % 10 = j at hj hd ⊢
    have hc : List.drop j (List.take (j + 1) [48, 49, 50, 51, 52, 53, 54, 55, 56, 57]) = [UInt8.ofNat (48 + j)] := by
      have : ∀ j, j < 10 → List.drop j (List.take (j + 1) ([48, 49, 50, 51, 52, 53, 54, 55, 56, 57] : Txt)) = [UInt8.ofNat (48 + j)] := by decide
      exact this j hj
    rw [hc, ← hm, show [UInt8.ofNat (48 + j)] ++ dig k n = dig (k + 1) n from hd.symm]
    exact ⟨⟨by omega, by omega, by omega⟩, by rw [dig_len]; simp only [List.length_singleton]; omega, Next.intro (k + 1) rfl rfl (by omega) (by omega)⟩
  · obtain rfl : k = 8 := by omega
    have c1 : ¬ ((8 : Nat) : Int) < 8 := by omega
    simp only [c1, dig_len, Qs, if_true, List.nodup_nil, Nat.reduceAdd, Nat.reduceLeDiff, Nat.reduceBEq, Int.reduceLT, id @f14r1.eq_1, uu f14b2.eq_1, uu f14b11.eq_1, id @f14r12.eq_1, uu f14b13.eq_1, uu f14b14.eq_1]
    first | exact hS | exact ⟨by decide, hS⟩
end Go.Abs


set_option maxRecDepth 100000
set_option maxHeartbeats 4000000
namespace Go.Abs
open Go.Proofs Go.Wire Go.RowKit Go.Jr
def numI (r : Option Nat) : Int := match r with
  | some n => n
  | none => -1
theorem r15 (s : Txt) (h : s.length = 16) : Spec Tryd.prog 15 [.str s] (fun r => r = .int .i64 (numI (numT s))) := by
  refine Spec.of_awlS hf15 okf15 (by simp) fun S hS => ?_
  unfold numT at hS
  simp only [h, Qs, if_true, Nat.reduceBEq, Int.reduceBNe, uu f15.eq_1, uu f15b18.eq_1, id @f15r19.eq_1, uu f15b20.eq_1, uu f15b21.eq_1, id @f15r22.eq_1, uu f15b23.eq_1, uu f15b26.eq_1, id @f15r27.eq_1, uu f15b28.eq_1, uu f15b29.eq_1, id @f15r30.eq_1, uu f15b31.eq_1]
  rw [uf15l17]
  refine awl_loop (fun i : Nat => [(0, .str s), (3, .int .i64 (valD (s.take i) : Nat)), (4, .int .i64 i)]) (fun _ => [])
    (fun i => i ≤ 8 ∧ (s.take i).all isDig = true ∧ s.take i = (s.drop 8).take i) (fun i => 8 - i) 0 rfl rfl ⟨by decide, rfl, rfl⟩ ?_
  rintro i ⟨hi, hd, he⟩
  by_cases hlt : i < 8
  · have c1 : (i : Int) < 8 := by omega
    have c2 : (i : Int) < s.length := by omega
    have c3 : IntKind.i64.wrap ((i : Int) + 8) = ((i + 8 : Nat) : Int) := by rw [wrap_in (by omega) (by omega)]; omega
    have c4 : IntKind.i64.wrap ((i : Int) + 1) = (i : Int) + 1 := wrap_in (by omega) (by omega)
    have hts := take_snoc (s := s) (i := i) (by omega)
    have htd := take_snoc (s := s.drop 8) (i := i) (by rw [List.length_drop]; omega)
    have hde : (s.drop 8).getD i 0 = s.getD (i + 8) 0 := by
      rw [List.getD_eq_getElem?_getD, List.getD_eq_getElem?_getD, List.getElem?_drop, Nat.add_comm 8 i]
    rw [hde] at htd
    have hval : (valD (s.take i)) < 10 ^ i := valD_lt i _ (by rw [List.length_take]; omega) hd
    have hval8 : valD (s.take i) < 100000000 := Nat.lt_of_lt_of_le hval (Nat.pow_le_pow_right (n := 10) (by decide) hi)
    have hmem : isDig (s.getD i 0) = false → (s.take 8).all isDig = false := by
      intro hc
      rw [List.all_eq_false]
      refine ⟨s.getD i 0, ?_, by rw [hc]; simp⟩
      rw [List.getD_eq_getElem?_getD, List.getElem?_eq_getElem (show i < s.length by omega), Option.getD_some, List.mem_take_iff_getElem]
      exact ⟨i, by omega, rfl⟩
    have hdif : s.getD i 0 ≠ s.getD (i + 8) 0 → s.take 8 ≠ s.drop 8 := by
      intro hne e
      refine hne ?_
      have e1 : (s.take 8).getD i 0 = s.getD i 0 := by
        rw [List.getD_eq_getElem?_getD, List.getD_eq_getElem?_getD, List.getElem?_take_of_lt hlt]
      rw [← e1, e, hde]
    simp only [c1, c2, c3, c4, h, Qs, q_AOp_dst_eq_24, q_exL_eq_16, q_exL_eq_25, q_exLQ_eq_3, q_exLQ_eq_26, q_vConv_eq_1, q_vSidx_eq_1, if_true, if_false, Int.reduceNeg, List.nodup_nil, Nat.reduceBEq, q_exKQ_eq_1, id @f15r3.eq_1, id @f15r4.eq_1, id @f15r5.eq_1, uu f15b6.eq_1, uu f15b7.eq_1, id @f15r8.eq_1, uu f15b9.eq_1, uu f15b10.eq_1, uu f15b11.eq_1, uu f15b12.eq_1, uu f15b13.eq_1, id @f15r14.eq_1, uu f15b15.eq_1, uu f15b16.eq_1]
    generalize hcc : s.getD i 0 = c at hts hmem hdif ⊢
    generalize hee : s.getD (i + 8) 0 = e at htd hdif ⊢
    generalize hm : valD (s.take i) = m at hval8 ⊢
    have hbad : (isDig c = false ∨ c ≠ e) → S (V.k (K.c (C.int IntKind.i64 (-1)))) := by
      intro hc
      rw [if_neg (fun h => hc.elim (fun hc => by rw [hmem hc] at h; exact absurd h.2 (by simp)) fun hc => hdif hc h.1)] at hS
      exact hS
    refine ⟨by omega, fun g => hbad (.inl ?_), fun g1 => ⟨by omega, fun g => hbad (.inl ?_), fun g2 => ⟨by omega, by omega, fun g => hbad (.inr ?_), fun g3 => ⟨by omega, ?_⟩⟩⟩⟩
    · simp [isDig]; omega
    · simp [isDig]; omega
    · rintro rfl; exact g rfl
    · have hce : c = e := UInt8.toNat_inj.1 (by omega)
      have w2 : IntKind.i64.wrap (c.toNat : Int) = (c.toNat : Int) := wrap_in (by omega) (by omega)
      have w3 : IntKind.i64.wrap (10 * (m : Int)) = 10 * (m : Int) := wrap_in (by omega) (by omega)
      have w4 : IntKind.i64.wrap (10 * (m : Int) + (c.toNat : Int)) = 10 * (m : Int) + (c.toNat : Int) := wrap_in (by omega) (by omega)
      have w5 : IntKind.i64.wrap (10 * (m : Int) + (c.toNat : Int) - 48) = ((m * 10 + (c.toNat - 48) : Nat) : Int) := by rw [wrap_in (by omega) (by omega)]; omega
      have ev : m * 10 + (c.toNat - 48) = valD (s.take (i + 1)) := by rw [hts, valD_snoc, hm]
      have hd2 : (s.take (i + 1)).all isDig = true := by
        rw [hts, List.all_append, hd]
        simp [isDig]
        omega
      rw [w3, w2, w4, w5, ev]
      exact Next.intro (i + 1) rfl rfl ⟨by omega, hd2, by rw [hts, htd, he, hce]⟩ (by omega)
  · obtain rfl : i = 8 := by omega
    have c1 : ¬ ((8 : Nat) : Int) < 8 := by omega
    simp only [c1, Qs, if_true, List.nodup_nil, Nat.reduceBEq, Int.reduceLT, id @f15r1.eq_1, uu f15b2.eq_1, uu f15b13.eq_1, id @f15r14.eq_1, uu f15b15.eq_1, uu f15b16.eq_1]
    rw [List.take_of_length_le (l := s.drop 8) (by rw [List.length_drop]; omega)] at he
    rw [if_pos ⟨he, hd⟩] at hS
    exact hS
end Go.Abs


set_option maxRecDepth 100000
set_option maxHeartbeats 4000000
namespace Go.Abs
open Go.Proofs Go.Wire Go.RowKit Go.Jr
theorem curD_01 {a b : Option Nat} {c : Int} {n : Nat} (h : curD a b = some (c, n)) : c = 0 ∨ c = 1 := by
  unfold curD at h
  split at h
  · cases h
  · cases h; exact .inl rfl
  · cases h; exact .inr rfl
  · split at h
    · cases h; exact .inr rfl
    · cases h; exact .inl rfl
theorem log_le {d : Disk} (h : Right d) : (logD d).length ≤ 16 * (d.secs.length - 2) := by
  rw [logD, flat_16 _ fun x hx => h.se x (List.mem_of_mem_drop hx), List.length_drop]
  exact Nat.le_refl _
theorem read_facts (d : Disk) (h : Right d) : (readJ d).1.bytes.length ≤ 8192 ∧ ((readJ d).2 = 0 → ((readJ d).1.cur = 0 ∨ (readJ d).1.cur = 1) ∧ d.down = false ∧ d.pend = [] ∧ 2 < d.secs.length) := by
  have hl := log_le h
  have hhi := h.hi
  unfold readJ
  by_cases hr : readyD d = 0
  · rw [if_neg (by simp [hr])]
    obtain ⟨e1, e2⟩ := readyD_eq hr
    by_cases h2 : d.secs.length ≤ 2
    · rw [if_pos h2]; exact ⟨by simp, by simp⟩
    · rw [if_neg h2]
      split
      · exact ⟨by simp, by simp⟩
      · rename_i c n hc
        split
        · exact ⟨by simp, by simp⟩
        · split
          · exact ⟨by simp, by simp⟩
          · split
            · exact ⟨by simp, by simp⟩
            · refine ⟨by simp only [List.length_take]; omega, fun _ => ⟨curD_01 hc, e1, e2, by omega⟩⟩
  · rw [if_pos hr]
    exact ⟨by simp, fun h => absurd h hr⟩
theorem right_flush {d : Disk} (h : Right d) (hu : d.down = false) : Right (flushD d).1 ∧ ((flushD d).2 = 0 → (flushD d).1.down = false ∧ (flushD d).1.pend = [] ∧ (flushD d).1.secs.length = d.secs.length) := by
  have hl0 := h.l0
  have hl1 := h.l1
  have hpp : ∀ (ws : List Wr), (∀ w ∈ ws, w ∈ d.pend) → ∀ s ∈ perf d.secs ws, s.length = 16 := fun ws hw => perf_se _ _ h.se fun w hx => (h.wr w (hw w hx)).2.2
  by_cases hk : 0 ≤ d.left ∧ d.left < d.pend.length
  · rw [flush_torn hu hk]
    have hl : (perf d.secs (d.pend.take d.left.toNat)).length = d.secs.length := perf_len _ _
    have hp := hpp (d.pend.take d.left.toNat) fun w hw => List.mem_of_mem_take hw
    have hkl : d.left.toNat < d.pend.length := by omega
    have hgd : d.pend.getD d.left.toNat default = d.pend[d.left.toNat] := by rw [List.getD_eq_getElem?_getD, List.getElem?_eq_getElem hkl]; rfl
    obtain ⟨w0, w1, w2⟩ := h.wr _ (List.getElem_mem hkl)
    refine ⟨⟨by simp only [List.length_set]; rw [hl]; exact h.lo, by simp only [List.length_set]; rw [hl]; exact h.hi, by simp, by simp, by simp, fun _ => ⟨rfl, rfl⟩, ?_, fun w hw => absurd hw (by simp)⟩, fun e => absurd e (by simp)⟩
    refine set_se hp ?_
    rw [hgd, List.length_append, List.length_take, List.length_drop, w2, getD_se hp (by omega)]
    decide
  · rw [flush_all hu hk]
    have hl : (perf d.secs d.pend).length = d.secs.length := perf_len _ _
    refine ⟨⟨by rw [hl]; exact h.lo, by rw [hl]; exact h.hi, by simp, ?_, ?_, fun e => absurd e (by simp), hpp _ fun _ h => h, fun w hw => absurd hw (by simp)⟩, fun _ => ⟨rfl, rfl, hl⟩⟩
    · show -1 ≤ (if 0 ≤ d.left then d.left - d.pend.length else -1 : Int)
      split <;> omega
    · show (if 0 ≤ d.left then d.left - d.pend.length else -1 : Int) ≤ 512
      split <;> omega
theorem chunk_is {all : Txt} {j : Nat} (h : 16 * j < all.length) : List.drop ((j : Int) * 16).toNat (List.take (if (all.length : Int) < ((j : Int) + 1) * 16 then (all.length : Int) else ((j : Int) + 1) * 16).toNat all) = (all.drop (16 * j)).take 16 := by
  rw [show ((j : Int) * 16).toNat = 16 * j by omega]
  split
  · rw [Int.toNat_natCast, List.take_length, List.take_of_length_le (by rw [List.length_drop]; omega)]
  · rw [show (((j : Int) + 1) * 16).toNat = 16 * j + 16 by omega, List.drop_take, show 16 * j + 16 - 16 * j = 16 by omega]
theorem b11 (d : Disk) (h : Right d) (s : Txt) (hs : s.length ≤ 1000000000) : Spec Tryd.prog 11 [dV d, .str s] (fun r => r = resD (appendJ d s)) := by
  refine Spec.of_awlP hf11 okf11 (by simp) fun S hS => ?_
  have c27 := b27 d h
  have c12 := w11 s (by omega)
  unfold appendJ at hS
  obtain ⟨hb, hrd⟩ := read_facts d h
  generalize readJ d = x at c27 hS hb hrd
  obtain ⟨⟨xl, xb, xc⟩, xe⟩ := x
  have hse := h.se
  have hhi := h.hi
  obtain ⟨secs, pend, left, down⟩ := d
  simp only [dV, encD, resC] at *
  simp only [normRows_strs, normRows_wrs, Qs, if_true, bne_iff_ne, ne_eq, Nat.reduceAdd, Nat.reduceEqDiff, Nat.reduceBEq, uu f11.eq_1, id @f11r45.eq_1, uu f11b46.eq_1, id @f11r47.eq_1, uu f11b48.eq_1]
  refine call_r c27 ?_
  simp only [normRows_strs, normRows_wrs, Qs, if_false, bne_iff_ne, ne_eq, List.append_nil, Nat.reduceAdd, Nat.reduceMul, Nat.reduceEqDiff, Nat.reduceLeDiff, Nat.reduceBEq, id @f11r43.eq_1, uu f11b44.eq_1]
  refine ⟨rfl, _, c12, .inl rfl, ?_⟩
  have hws := wS_le (s := s) (by omega)
  have b1 : xb.length + (wS s).length ≤ 9223372036854775807 := by omega
  simp only [b1, normRows_strs, normRows_wrs, Qs, q_cutInt_eq_4, if_true, if_false, ne_eq, List.append_nil, List.nodup_nil, Nat.reduceAdd, Nat.reduceLeDiff, Nat.reduceLT, Nat.reduceBEq, Int.reduceEq, uu f11b22.eq_1, id @f11r23.eq_1, uu f11b24.eq_1, uu f11b25.eq_1, id @f11r26.eq_1, uu f11b27.eq_1, id @f11r28.eq_1, uu f11b29.eq_1, id @f11r30.eq_1, uu f11b31.eq_1, uu f11b32.eq_1, id @f11r33.eq_1, uu f11b34.eq_1, uu f11b35.eq_1, id @f11r36.eq_1, uu f11b37.eq_1, uu f11b38.eq_1, id @f11r39.eq_1, uu f11b40.eq_1, uu f11b41.eq_1, uu f11b42.eq_1]
  by_cases he : xe = 0
  · subst he
    obtain ⟨hc, hdn, hpd, h2⟩ := hrd rfl
    subst hdn hpd
    rw [if_neg (by simp)] at hS
    by_cases h1 : (s.length : Int) > 2000
    · rw [if_pos (show s.length > 2000 by omega)] at hS
      simp only [h1, normRows_strs, normRows_wrs, Qs, forall_const, not_true_eq_false, Int.reduceBNe]
      exact fin_T hS (secs := []) (pend := []) rfl rfl rfl
    · rw [if_neg (show ¬ s.length > 2000 by omega)] at hS
      have w2 : IntKind.i64.wrap ((secs.length : Int) - 2) = (secs.length : Int) - 2 := wrap_in (by omega) (by omega)
      have w3 : IntKind.i64.wrap (((secs.length : Int) - 2) * 16) = ((secs.length : Int) - 2) * 16 := wrap_in (by omega) (by omega)
      have w4 : IntKind.i64.wrap ((xb.length : Int).tdiv 16) = ((xb.length / 16 : Nat) : Int) := by
        rw [Int.tdiv_eq_ediv_of_nonneg (by omega), wrap_in (by omega) (by omega)]; omega
      simp only [h1, w2, w3, w4, strs_len, normRows_strs, normRows_wrs, Qs, forall_const, not_true_eq_false, Int.reduceBNe]
      generalize hall : xb ++ wS s = all at hS ⊢
      have hal : all.length ≤ 100000 := by rw [← hall, List.length_append]; omega
      have hat : xb.length / 16 ≤ 512 := by omega
      generalize xb.length / 16 = at0 at hS hat ⊢
      refine ⟨fun g => ?_, fun g => ⟨fun g2 => ?_, fun g2 => ?_⟩⟩
      · rw [if_pos (.inl (by omega))] at hS
        exact fin_T hS (secs := []) (pend := []) rfl rfl rfl
      · rw [if_pos (.inr (by omega))] at hS
        exact fin_T hS (secs := []) (pend := []) rfl rfl rfl
      · rw [if_neg (by omega)] at hS
        have hfit : all.length ≤ (secs.length - 2) * 16 := by omega
        rw [uf11l21]
        refine awl_loop (fun x : Nat × Disk => [(2, .k (.ptr 2 0)), (4, .k (.ptr 4 0)), (6, .k (.ptr 6 0)), (8, .str all), (9, .int .i64 x.1)])
          (fun x => [(2, objC x.2.secs x.2.pend x.2.left x.2.down), (4, .var 27 [.c (.list 0 (some true) []), .c (.list 0 (some true) []), .c (.int .i64 0), .c (.bool false)]), (6, .var 53 [.c (lstC 1 (strs xl)), .c (.str xb), .c (.int .i64 xc)])])
          (fun x => Right x.2 ∧ x.2.down = false ∧ x.2.secs.length = secs.length ∧ x.2.pend.length ≤ x.1 ∧ x.1 ≤ 512 + all.length ∧ ∃ k, all.length ≤ 16 * (x.1 + k) ∧ putJ all k x.1 x.2 = putJ all all.length at0 ⟨secs, [], left, false⟩)
          (fun x => all.length + 1 - x.1) (at0, ⟨secs, [], left, false⟩) rfl rfl ⟨h, rfl, rfl, by simp, by omega, all.length, by omega, rfl⟩ ?_
        rintro ⟨j, secs2, pend2, left2, down2⟩ ⟨g1, g2, g3, g4, g5, k, g6, g7⟩
        simp only [] at g2 g3 g4 g5 g6 g7
        subst g2
        have w5 : IntKind.i64.wrap ((j : Int) * 16) = (j : Int) * 16 := wrap_in (by omega) (by omega)
        by_cases hlt : 16 * j < all.length
        · have c1 : (j : Int) * 16 < all.length := by omega
          have w6 : IntKind.i64.wrap (2 + (j : Int)) = 2 + (j : Int) := wrap_in (by omega) (by omega)
          have w7 : IntKind.i64.wrap ((j : Int) + 1) = (j : Int) + 1 := wrap_in (by omega) (by omega)
          have w8 : IntKind.i64.wrap (((j : Int) + 1) * 16) = ((j : Int) + 1) * 16 := wrap_in (by omega) (by omega)
          simp only [w5, w6, w7, w8, c1, Qs, q_exLQ_eq_34, q_exLQ_eq_37, q_vInts_eq_1, q_vInts_eq_2, q_foldV_eq_1, q_vMinmax_eq_1, q_minmaxI_eq_1, if_true, if_false, Nat.reduceAdd, Nat.reduceBEq, id @f11r13.eq_1, id @f11r14o0.eq_1, id @f11r14o1.eq_1, id @f11r14o2.eq_1, id @f11r14o3.eq_1, id @f11r14o4.eq_1, id @f11r14o5.eq_1, id @f11r14o6.eq_1, id @f11r14o7.eq_1, id @f11r14o8.eq_1, id @f11r14o9.eq_1, id @f11r14o10.eq_1, id @f11r14o11.eq_1, id @f11r14o12.eq_1, id @f11r14o13.eq_1, id @f11r14o14.eq_1, id @f11r14o15.eq_1, id @f11r14o16.eq_1, id @f11r14o17.eq_1, utf11r14, uu f11b15.eq_1, uu f11b16.eq_1, uu f11b17.eq_1, id @f11r18.eq_1, uu f11b19.eq_1, uu f11b20.eq_1]
          obtain ⟨k, rfl⟩ : ∃ k', k = k' + 1 := ⟨k - 1, by omega⟩
          rw [putJ, if_pos hlt] at g7
          have hch : ((all.drop (16 * j)).take 16).length ≤ 16 := by rw [List.length_take]; omega
          rw [chunk_is hlt]
          generalize (all.drop (16 * j)).take 16 = ch at g7 hch ⊢
          have hw := writeD_ok (d := ⟨secs2, pend2, left2, false⟩) (i := 2 + (j : Int)) (s := ch) rfl (by omega) (by show 2 + (j : Int) < secs2.length; omega) hch (by show pend2.length < 512; omega)
          have hp := right_push (i := 2 + (j : Int)) (t := pad ch) g1 (by omega) (by omega) (pad_len hch) (by omega)
          rw [hw] at g7
          refine ⟨⟨by omega, by split <;> omega, by split <;> omega⟩, callQ_R (b28 _ g1 (2 + (j : Int)) ch) ?_ rfl (by simp [lendL, V.norm, C.normRow, dV, encD, norm_list, norm_lst, normRows_strs, normRows_wrs]) rfl⟩
          rw [hw]
          simp only [resD, dV, encD, normRows_strs, normRows_wrs, w7, Qs, if_true, List.append_nil, Nat.reduceAdd, Nat.reduceBEq]
          exact Next.intro (j + 1, ⟨secs2, pend2 ++ [⟨2 + (j : Int), pad ch⟩], left2, false⟩) rfl rfl ⟨hp, rfl, g3, by show (pend2 ++ [_]).length ≤ j + 1; rw [List.length_append, List.length_singleton]; omega, by show j + 1 ≤ 512 + all.length; omega, k, by show all.length ≤ 16 * (j + 1 + k); omega, g7⟩ (by show all.length + 1 - (j + 1) < all.length + 1 - j; omega)
        · have c1 : ¬ (j : Int) * 16 < all.length := by omega
          have g8 : putJ all k j ⟨secs2, pend2, left2, false⟩ = ⟨secs2, pend2, left2, false⟩ := by
            cases k with
            | zero => rfl
            | succ k => rw [putJ, if_neg hlt]
          rw [g8] at g7
          rw [← g7] at hS
          have c29 := b29 _ g1
          simp only [dV, encD] at c29
          simp only [w5, c1, normRows_strs, normRows_wrs, Qs, if_true, Nat.reduceAdd, Nat.reduceBEq, id @f11r11.eq_1, uu f11b12.eq_1, uu f11b17.eq_1, id @f11r18.eq_1, uu f11b19.eq_1, uu f11b20.eq_1]
          refine call_r c29 ?_
          obtain ⟨hRf, hzf⟩ := right_flush g1 rfl
          generalize flushD ⟨secs2, pend2, left2, false⟩ = x at hS hRf hzf ⊢
          obtain ⟨⟨s3, p3, l3, d3⟩, e3⟩ := x
          simp only [] at hS hRf hzf
          by_cases hz : e3 = 0
          · subst hz
            obtain ⟨z1, z2, z3⟩ := hzf rfl
            subst z1 z2
            rw [if_neg (by simp)] at hS
            have w9 : IntKind.i64.wrap (1 - xc) = 1 - xc := wrap_in (by omega) (by omega)
            have hhl := hdr_len all.length
            have hw := writeD_ok (d := ⟨s3, [], l3, false⟩) (i := 1 - xc) (s := hdr all.length) rfl (by omega) (by show 1 - xc < s3.length; omega) (by omega) (by simp)
            have hp := right_push (i := 1 - xc) (t := pad (hdr all.length)) hRf (by omega) (by omega) (pad_len (by omega)) (by simp)
            rw [hw] at hS
            simp only [resD, dV, encD, normRows_strs, normRows_wrs, w9, Qs, q_exLQ_eq_34, if_true, if_false, List.append_nil, Nat.reduceAdd, Nat.reduceMul, Nat.reduceBEq, Int.reduceBNe, id @f11r3o0.eq_1, id @f11r3o1.eq_1, id @f11r3o2.eq_1, id @f11r3o3.eq_1, id @f11r3o4.eq_1, id @f11r3o5.eq_1, id @f11r3o6.eq_1, id @f11r3o7.eq_1, id @f11r3o8.eq_1, id @f11r3o9.eq_1, id @f11r3o10.eq_1, id @f11r3o11.eq_1, utf11r3, uu f11b4.eq_1, uu f11b7.eq_1, id @f11r8.eq_1, uu f11b9.eq_1, uu f11b10.eq_1]
            refine ⟨rfl, _, s30 all.length (by omega), .inl rfl, ?_⟩
            simp only [normRows_strs, normRows_wrs, w9, Qs, Nat.reduceBEq]
            refine callQ_R (b28 _ hRf (1 - xc) (hdr all.length)) ?_ rfl (by simp [lendL, V.norm, C.normRow, dV, encD, norm_list, norm_lst, normRows_strs, normRows_wrs]) rfl
            rw [hw]
            have c29' := b29 _ hp
            simp only [dV, encD] at c29'
            simp only [resD, dV, encD, normRows_strs, normRows_wrs, w9, Qs, if_true, List.append_nil, Nat.reduceAdd, Nat.reduceBEq, id @f11r1.eq_1, uu f11b2.eq_1]
            refine call_r c29' ?_
            simp only [List.nil_append] at hS ⊢
            generalize flushD ⟨s3, [⟨1 - xc, pad (hdr all.length)⟩], l3, false⟩ = y at hS ⊢
            obtain ⟨⟨s4, p4, l4, d4⟩, e4⟩ := y
            simp only [resD, dV, encD, normRows_strs, normRows_wrs, Qs, if_true, List.append_nil, List.nodup_nil, Nat.reduceAdd, Nat.reduceMul, Nat.reduceLT, Nat.reduceBEq]
            exact fin_T hS (norm_s _) (norm_w _) rfl
          · rw [if_pos hz] at hS
            simp only [resD, dV, encD, hz, normRows_strs, normRows_wrs, Qs, q_exLQ_eq_34, if_true, if_false, forall_const, List.append_nil, List.nodup_nil, Nat.reduceAdd, Nat.reduceMul, Nat.reduceLT, Nat.reduceBEq, id @f11r3o0.eq_1, id @f11r3o1.eq_1, id @f11r3o2.eq_1, id @f11r3o3.eq_1, id @f11r3o4.eq_1, id @f11r3o5.eq_1, id @f11r3o6.eq_1, id @f11r3o7.eq_1, id @f11r3o8.eq_1, id @f11r3o9.eq_1, id @f11r3o10.eq_1, id @f11r3o11.eq_1, utf11r3, uu f11b4.eq_1, id @f11r5.eq_1, uu f11b6.eq_1, uu f11b7.eq_1, id @f11r8.eq_1, uu f11b9.eq_1, uu f11b10.eq_1]
            exact fin_T hS (norm_s _) (norm_w _) rfl
  · rw [if_pos he] at hS
    simp only [he, normRows_strs, normRows_wrs, Qs, forall_const]
    exact fin_T hS (secs := []) (pend := []) rfl rfl rfl
end Go.Abs


set_option maxRecDepth 100000
set_option maxHeartbeats 4000000
namespace Go.Abs
open Go.Proofs Go.Wire Go.RowKit Go.Jr
def fitsB (l : List Txt) (most : Int) : Bool := l.all (fun s => decide (s.length ≤ 100)) && decide ((l.length : Int) ≤ most)
theorem l8 (l : List Txt) (most : Int) : Spec Tryd.prog 8 [lst 1 (strs l), .int .i64 most] (fun r => r = .bool (fitsB l most)) := by
  refine Spec.of_len hf8 fun hlen => ?_
  have hl := len_lst (sz := 1) (rows := strs l) List.mem_cons_self hlen
  rw [strs_len] at hl
  clear hlen
  refine Spec.of_awlS hf8 okf8 (by simp) fun S hS => ?_
  simp only [Qs, Nat.reduceAdd, uu f8.eq_1, uu f8b16.eq_1, id @f8r17.eq_1, uu f8b18.eq_1, uu f8b19.eq_1, id @f8r20.eq_1, uu f8b21.eq_1]
  rw [uf8l15]
  refine awl_loop (fun i : Nat => [(0, lst 1 (strs l)), (1, .int .i64 most), (5, .int .i64 i)]) (fun _ => []) (fun i => i ≤ l.length ∧ (l.take i).all (fun s => decide (s.length ≤ 100)) = true) (fun i => l.length - i) 0 rfl rfl ⟨Nat.zero_le _, rfl⟩ ?_
  rintro i ⟨hi, hd⟩
  by_cases hlt : i < l.length
  · have c1 : (i : Int) < l.length := by omega
    have c4 : IntKind.i64.wrap ((i : Int) + 1) = (i : Int) + 1 := wrap_in (by omega) (by omega)
    by_cases h1 : (l[i].length : Int) > 100
    · simp only [c1, c4, h1, strs_len, strs_at hlt, Qs, if_true, List.nodup_nil, Nat.reduceBEq, id @f8r3.eq_1, id @f8r4.eq_1, uu f8b5.eq_1, uu f8b6.eq_1, id @f8r7.eq_1, uu f8b8.eq_1, uu f8b9.eq_1, uu f8b10.eq_1, uu f8b11.eq_1, id @f8r12.eq_1, uu f8b13.eq_1, uu f8b14.eq_1]
      refine fin hS ?_
      have : l.all (fun s => decide (s.length ≤ 100)) = false := by
        rw [List.all_eq_false]
        exact ⟨l[i], List.getElem_mem hlt, by simp; omega⟩
      rw [fitsB, this]; rfl
    · simp only [c1, c4, h1, strs_len, strs_at hlt, Qs, if_true, Nat.reduceBEq, id @f8r3.eq_1, uu f8b6.eq_1, id @f8r7.eq_1, uu f8b8.eq_1, uu f8b9.eq_1, uu f8b10.eq_1, uu f8b11.eq_1, id @f8r12.eq_1, uu f8b13.eq_1, uu f8b14.eq_1]
      refine Next.intro (i + 1) rfl rfl ⟨by omega, ?_⟩ (by omega)
      rw [List.take_add_one, List.getElem?_eq_getElem hlt, List.all_append, hd]
      simp; omega
  · have c1 : ¬ (i : Int) < l.length := by omega
    simp only [c1, strs_len, Qs, if_true, List.nodup_nil, Nat.reduceBEq, id @f8r1.eq_1, uu f8b2.eq_1, uu f8b11.eq_1, id @f8r12.eq_1, uu f8b13.eq_1, uu f8b14.eq_1]
    refine fin hS ?_
    rw [List.take_of_length_le (by omega)] at hd
    rw [fitsB, hd, Bool.true_and]
theorem right_down {secs : List Txt} (h : Right ⟨secs, [], -1, false⟩) : Right ⟨secs, [], -1, true⟩ := ⟨h.lo, h.hi, h.pe, h.l0, h.l1, fun _ => ⟨rfl, rfl⟩, h.se, h.wr⟩
theorem armed {d : Disk} {l : List Txt} {c : Nat} (h : Jr.Inv d l c) {k : Int} (h0 : 0 ≤ k) (h1 : k ≤ 512) : Jr.Inv ⟨d.secs, d.pend, k, d.down⟩ l c :=
  ⟨⟨h.right.lo, h.right.hi, h.right.pe, by show -1 ≤ k; omega, h1, fun e => absurd (h.up.symm.trans e) (by simp), h.right.se, h.right.wr⟩, h.up, h.pe, h.n3, h.len, h.each, h.fit, h.holds, h.c01, h.hd, h.ot⟩
theorem right_new {n : Nat} (h0 : 1 ≤ n) (h : n ≤ 512) : Right (newD n) := by
  refine ⟨by simp [newD]; omega, by simp [newD]; omega, by simp [newD], by simp [newD], by simp [newD], fun e => absurd e (by simp [newD]), ?_, fun w hw => absurd hw (by simp [newD])⟩
  intro s hs
  rw [(List.mem_replicate.1 hs).2]
  rfl
theorem l7 : Spec Tryd.prog 7 [] (fun r => r = .bool true) := by
  refine Spec.of_awlS hf7 okf7 (by simp) fun S hS => ?_
  have c16 := r16 5 (by decide) (by decide)
  have hRn := right_new (n := 5) (by decide) (by decide)
  have c20n := b20 _ hRn
  rw [show readJ (newD 5) = (⟨[], [], 0⟩, 22) by kernel_rfl] at c20n
  have c17 := b17 _ hRn
  obtain ⟨a, ha, ia, sa, la, _⟩ := format_ok (n := 5) (by decide) (by decide)
  rw [ha] at c17
  obtain ⟨b, hb, ib, sb, lb, _⟩ := append_ok ia (s := [97, 98]) (by decide) (by decide) (by rw [sa]; exact Nat.le_of_ble_eq_true (by kernel_rfl)) (.inl la)
  have lb := lb la
  obtain ⟨c, hc, ic, sc, lc, _⟩ := append_ok ib (s := []) (by decide) (by decide) (by rw [sb, sa]; exact Nat.le_of_ble_eq_true (by kernel_rfl)) (.inl lb)
  have lc := lc lb
  have c11a := b11 _ ia.right [97, 98] (by decide)
  rw [hb] at c11a
  have c11b := b11 _ ib.right [] (by decide)
  rw [hc] at c11b
  have c20c := b20 _ ic.right
  have c24c := b24 _ ic.right
  have c22c := b22 _ ic.right 0
  rw [ic.read] at c20c c24c c22c
  have c22c : Spec Tryd.prog 22 [dV c, .int .i64 0] (fun r => r = .tup [.str [97, 98], .int .i64 0]) := c22c
  have c24c : Spec Tryd.prog 24 [dV c] (fun r => r = .tup [.int .i64 2, .int .i64 0]) := c24c
  have c20c : Spec Tryd.prog 20 [dV c] (fun r => r = .tup [lst 1 (strs [[97, 98], []]), .int .i64 0]) := c20c
  have cSS := w26 [[97, 98], []] [[97, 98], []]
  rw [decide_eq_true rfl] at cSS
  have c25 := r25 _ ic.right 1
  rw [show armD c 1 = (⟨c.secs, c.pend, 1, c.down⟩, 0) by rw [armD, if_neg (by simp [ic.up]), if_neg (by decide)]] at c25
  have ix := armed ic (k := 1) (by decide) (by decide)
  obtain ⟨zs, hz, iz, sz⟩ := append_cut ix (s := [99]) (by decide) (by decide) (by show _ ≤ 16 * (c.secs.length - 2); rw [sc, sb, sa]; exact Nat.le_of_ble_eq_true (by kernel_rfl)) (by show (0 : Int) ≤ 1; decide) (by show (1 : Int) ≤ ((dataW ([] ++ [[97, 98]] ++ [[]]) [99]).length : Int); exact Int.ofNat_le.2 (Nat.le_of_ble_eq_true (by kernel_rfl)))
  have c11x := b11 _ ix.right [99] (by decide)
  rw [hz] at c11x
  have c26 := r26 _ (right_down iz.right)
  rw [show startD ⟨zs, [], -1, true⟩ = (⟨zs, [], -1, false⟩, 0) from rfl] at c26
  have c20z := b20 _ iz.right
  rw [iz.read] at c20z
  have c20z : Spec Tryd.prog 20 [dV ⟨zs, [], -1, false⟩] (fun r => r = .tup [lst 1 (strs [[97, 98], []]), .int .i64 0]) := c20z
  simp only [resD, dV, encD] at *
  simp only [normRows_strs, normRows_wrs, Qs, uu f7.eq_1, id @f7r27.eq_1, uu f7b28.eq_1, id @f7r29.eq_1, uu f7b30.eq_1]
  refine call_r c16 ?_
  simp only [normRows_strs, normRows_wrs, Qs, if_true, List.append_nil, Nat.reduceAdd, Nat.reduceMul, Nat.reduceBEq, id @f7r25.eq_1, uu f7b26.eq_1]
  refine call_r c20n ?_
  simp only [normRows_strs, normRows_wrs, Qs, if_true, List.append_nil, Nat.reduceAdd, Nat.reduceMul, Nat.reduceBEq, id @f7r23.eq_1, uu f7b24.eq_1]
  refine call_r c17 ?_
  simp only [normRows_strs, normRows_wrs, Qs, if_true, bne_iff_ne, ne_eq, List.append_nil, Nat.reduceAdd, Nat.reduceMul, Nat.reduceEqDiff, Nat.reduceBEq, id @f7r21.eq_1, uu f7b22.eq_1]
  refine call_r c11a ?_
  simp only [normRows_strs, normRows_wrs, Qs, if_true, bne_iff_ne, ne_eq, List.append_nil, Nat.reduceAdd, Nat.reduceMul, Nat.reduceEqDiff, Nat.reduceBEq, id @f7r19.eq_1, uu f7b20.eq_1]
  refine call_r c11b ?_
  simp only [normRows_strs, normRows_wrs, Qs, if_true, bne_iff_ne, ne_eq, List.append_nil, Nat.reduceAdd, Nat.reduceMul, Nat.reduceEqDiff, Nat.reduceBEq, id @f7r17.eq_1, uu f7b18.eq_1]
  refine call_r c20c ?_
  simp only [normRows_strs, normRows_wrs, Qs, if_true, List.append_nil, Nat.reduceAdd, Nat.reduceMul, Nat.reduceBEq, id @f7r15.eq_1, uu f7b16.eq_1]
  refine call_s c24c ?_
  simp only [normRows_strs, normRows_wrs, Qs, if_true, Nat.reduceAdd, Nat.reduceBEq, id @f7r13.eq_1, uu f7b14.eq_1]
  refine call_r c25 ?_
  simp only [normRows_strs, normRows_wrs, Qs, if_true, bne_iff_ne, ne_eq, List.append_nil, Nat.reduceAdd, Nat.reduceMul, Nat.reduceEqDiff, Nat.reduceBEq, id @f7r11.eq_1, uu f7b12.eq_1]
  refine call_r c11x ?_
  simp only [normRows_strs, normRows_wrs, Qs, if_true, bne_iff_ne, ne_eq, Int.reduceNeg, List.append_nil, Nat.reduceAdd, Nat.reduceMul, Nat.reduceEqDiff, Nat.reduceBEq, id @f7r9.eq_1, uu f7b10.eq_1]
  refine call_r c26 ?_
  simp only [normRows_strs, normRows_wrs, Qs, if_true, bne_iff_ne, ne_eq, Int.reduceNeg, List.append_nil, Nat.reduceAdd, Nat.reduceMul, Nat.reduceEqDiff, Nat.reduceBEq, id @f7r7.eq_1, uu f7b8.eq_1]
  refine call_r c20z ?_
  simp only [normRows_strs, normRows_wrs, Qs, if_true, Int.reduceNeg, List.append_nil, Nat.reduceAdd, Nat.reduceMul, Nat.reduceBEq, id @f7r5.eq_1, uu f7b6.eq_1]
  refine call_s c22c ?_
  simp only [normRows_strs, normRows_wrs, Qs, q_AOp_dst_eq_7, q_List_set_cons_succ, if_true, forall_eq_or_imp, forall_eq, bne_iff_ne, ne_eq, Int.reduceNeg, BEq.rfl, List.mem_cons, Nat.reduceEqDiff, Nat.reduceLT, Nat.reduceBEq, List.not_mem_nil, id @f7r1.eq_1, uu f7b2.eq_1, id @f7r3.eq_1, uu f7b4.eq_1]
  refine call_s cSS ?_ (ha := by simp [lendL, lendO, lookO, V.norm, norm_list, lst]; rfl)
  simp only [normRows_strs, normRows_wrs, Qs, if_true, Int.reduceNeg, BEq.rfl, Nat.reduceBEq]
  refine call_s cSS ?_
  simp only [normRows_strs, normRows_wrs, Qs, q_binStr_eq_2, q_C_normRows_eq_2, if_true, Int.reduceNeg, BEq.rfl, List.nodup_nil, Nat.reduceBEq]
  exact hS
end Go.Abs


set_option maxRecDepth 100000
set_option maxHeartbeats 4000000
namespace Go.Abs
open Go.Proofs Go.Wire Go.RowKit Go.Jr
def wayD (n : Nat) (l : List Txt) : Nat → Disk
  | 0 => (formatJ (newD n)).1
  | i + 1 => (appendJ (wayD n l i) (l.getD i [])).1
structure Whole (n : Nat) (d : Disk) (l : List Txt) : Prop where
  ex : ∃ c m, Jr.Inv d l c ∧ m ≤ (wN wS l).length ∧ d.secs.getD (1 - c) [] = hdr m
  secs : d.secs.length = n
  left : d.left = -1
theorem wN_take_le (l : List Txt) : ∀ i, (wN wS (l.take i)).length ≤ (wN wS l).length := by
  intro i
  have : l.take i ++ l.drop i = l := List.take_append_drop i l
  have h := wN_app wS (l.take i) (l.drop i)
  rw [this] at h
  rw [h, List.length_append]; omega
theorem way_start {n : Nat} (h3 : 3 ≤ n) (hn : n ≤ 512) : formatJ (newD n) = ((formatJ (newD n)).1, 0) ∧ Whole n (formatJ (newD n)).1 [] := by
  obtain ⟨d, hd, hi, h1, h2, h4⟩ := format_ok h3 hn
  rw [hd]
  exact ⟨rfl, ⟨0, 0, hi, Nat.zero_le _, h4⟩, h1, h2⟩
theorem way_next {n : Nat} {d : Disk} {l : List Txt} {s : Txt} (h : Whole n d l) (hs : s.length ≤ 2000) (hl : l.length < 500) (hf : (wN wS l ++ wS s).length ≤ 16 * (n - 2)) : appendJ d s = ((appendJ d s).1, 0) ∧ Whole n (appendJ d s).1 (l ++ [s]) := by
  obtain ⟨⟨c, m, hi, hm, ho⟩, h1, h2⟩ := h
  obtain ⟨d', hd, hi', e1, e2, e3⟩ := append_ok hi hs hl (by rw [h1]; exact hf) (.inl h2)
  rw [hd]
  have hcc : 1 - (1 - c) = c := by rcases hi.c01 with rfl | rfl <;> rfl
  refine ⟨rfl, ⟨1 - c, (wN wS l).length, hi', ?_, by rw [hcc]; exact e3⟩, e1.trans h1, e2 h2⟩
  rw [wN_app, List.length_append]; omega
theorem way_ok {n : Nat} (h3 : 3 ≤ n) (hn : n ≤ 512) {l : List Txt} (hl : l.length ≤ 500) (hs : ∀ s ∈ l, s.length ≤ 2000) (hf : (wN wS l).length ≤ 16 * (n - 2)) : ∀ i, i ≤ l.length → Whole n (wayD n l i) (l.take i)
  | 0, _ => by rw [List.take_zero]; exact (way_start h3 hn).2
  | i + 1, hi => by
    have hlt : i < l.length := by omega
    have ih := way_ok h3 hn hl hs hf i (by omega)
    have e : l.getD i [] = l[i] := by rw [List.getD_eq_getElem?_getD, List.getElem?_eq_getElem hlt]; rfl
    have e2 : l.take (i + 1) = l.take i ++ [l[i]] := by rw [List.take_add_one, List.getElem?_eq_getElem hlt]; rfl
    rw [wayD, e, e2]
    refine (way_next ih (hs _ (List.getElem_mem hlt)) (by rw [List.length_take]; omega) ?_).2
    have := wN_take_le l (i + 1)
    rw [e2, wN_app, wN_one] at this
    omega
theorem way_step {n : Nat} (h3 : 3 ≤ n) (hn : n ≤ 512) {l : List Txt} (hl : l.length ≤ 500) (hs : ∀ s ∈ l, s.length ≤ 2000) (hf : (wN wS l).length ≤ 16 * (n - 2)) {i : Nat} (hlt : i < l.length) : appendJ (wayD n l i) l[i] = (wayD n l (i + 1), 0) := by
  have ih := way_ok h3 hn hl hs hf i (by omega)
  have e : l.getD i [] = l[i] := by rw [List.getD_eq_getElem?_getD, List.getElem?_eq_getElem hlt]; rfl
  have e2 : l.take (i + 1) = l.take i ++ [l[i]] := by rw [List.take_add_one, List.getElem?_eq_getElem hlt]; rfl
  rw [wayD, e]
  refine (way_next ih (hs _ (List.getElem_mem hlt)) (by rw [List.length_take]; omega) ?_).1
  have := wN_take_le l (i + 1)
  rw [e2, wN_app, wN_one] at this
  omega
theorem Whole.right {n : Nat} {d : Disk} {l : List Txt} (h : Whole n d l) : Right d := by
  obtain ⟨c, m, hi, _⟩ := h.ex
  exact hi.right
theorem l9 (n : Nat) (h3 : 3 ≤ n) (hn : n ≤ 512) (l : List Txt) (hl : l.length ≤ 500) (hs : ∀ s ∈ l, s.length ≤ 2000) (hf : (wN wS l).length ≤ 16 * (n - 2)) :
    Spec Tryd.prog 9 [.int .i64 n, lst 1 (strs l)] (fun r => r = .tup [dV (wayD n l l.length), .bool true]) := by
  refine Spec.of_awlP hf9 okf9 (by simp) fun S hS => ?_
  have c16 := r16 n (by omega) hn
  have hRn := right_new (n := n) (by omega) hn
  have c17 := b17 _ hRn
  have hst := way_start h3 hn
  rw [hst.1] at c17
  simp only [resD, dV, encD] at c16 c17
  simp only [normRows_strs, normRows_wrs, Qs, Nat.reduceAdd, Nat.reduceBEq, uu f9.eq_1, id @f9r18.eq_1, uu f9b19.eq_1, id @f9r20.eq_1, uu f9b21.eq_1]
  refine call_r c16 ?_
  simp only [normRows_strs, normRows_wrs, Qs, if_true, bne_iff_ne, ne_eq, List.append_nil, Nat.reduceAdd, Nat.reduceMul, Nat.reduceEqDiff, Nat.reduceBEq, id @f9r16.eq_1, uu f9b17.eq_1]
  refine call_r c17 ?_
  simp only [normRows_strs, normRows_wrs, Qs, bne_iff_ne, ne_eq, List.append_nil, Nat.reduceAdd, Nat.reduceMul, Nat.reduceEqDiff, Nat.reduceBEq, uu f9b12.eq_1, id @f9r13.eq_1, uu f9b14.eq_1, uu f9b15.eq_1]
  rw [uf9l11]
  refine awl_loop (fun i : Nat => [(1, lst 1 (strs l)), (4, .k (.ptr 4 0)), (8, .k (.ptr 8 0)), (9, .int .i64 0), (10, .int .i64 i)])
    (fun i => [(4, .var 27 [.c (.list 0 (some true) []), .c (.list 0 (some true) []), .c (.int .i64 0), .c (.bool false)]), (8, objC (wayD n l i).secs (wayD n l i).pend (wayD n l i).left (wayD n l i).down)])
    (fun i => i ≤ l.length) (fun i => l.length - i) 0 rfl rfl (Nat.zero_le _) ?_
  intro i hi
  by_cases hlt : i < l.length
  · have c1 : (i : Int) < l.length := by omega
    have c4 : IntKind.i64.wrap ((i : Int) + 1) = (i : Int) + 1 := wrap_in (by omega) (by omega)
    have hR := (way_ok h3 hn hl hs hf i hi).right
    have c11 := b11 _ hR l[i] (by have := hs _ (List.getElem_mem hlt); omega)
    rw [way_step h3 hn hl hs hf hlt] at c11
    simp only [c1, c4, strs_len, strs_at hlt, normRows_strs, normRows_wrs, Qs, if_true, BEq.rfl, Nat.reduceAdd, Nat.reduceBEq, id @f9r3.eq_1, id @f9r4o0.eq_1, id @f9r4o1.eq_1, id @f9r4o2.eq_1, id @f9r4o3.eq_1, id @f9r4o4.eq_1, id @f9r4o5.eq_1, id @f9r4o6.eq_1, id @f9r4o7.eq_1, id @f9r4o8.eq_1, id @f9r4o9.eq_1, id @f9r4o10.eq_1, utf9r4, uu f9b5.eq_1, uu f9b6.eq_1, uu f9b7.eq_1, id @f9r8.eq_1, uu f9b9.eq_1, uu f9b10.eq_1]
    refine callQ_R c11 ?_ rfl (by simp [lendL, V.norm, C.normRow, dV, encD, norm_list, norm_lst, normRows_strs, normRows_wrs]) rfl
    simp only [resD, dV, encD, c4, normRows_strs, normRows_wrs, Qs, if_true, List.append_nil, Nat.reduceAdd, Nat.reduceBEq]
    exact Next.intro (i + 1) rfl rfl (by omega) (by omega)
  · obtain rfl : i = l.length := by omega
    have c1 : ¬ (l.length : Int) < l.length := by omega
    simp only [c1, strs_len, normRows_strs, normRows_wrs, Qs, if_true, BEq.rfl, List.append_nil, List.nodup_nil, Nat.reduceAdd, Nat.reduceLT, Nat.reduceBEq, id @f9r1.eq_1, uu f9b2.eq_1, uu f9b7.eq_1, id @f9r8.eq_1, uu f9b9.eq_1, uu f9b10.eq_1]
    refine hS _ ?_
    simp only [V.fz, V.nrm, V.fzL, V.nrmL, Abs.K.fz, Abs.K.nrm, C.normRow, norm_s, norm_w, norm_int, norm_bool, dV, encD]
end Go.Abs


set_option maxRecDepth 100000
set_option maxHeartbeats 4000000
namespace Go.Abs
open Go.Proofs Go.Wire Go.RowKit Go.Jr
theorem fits_yes {l : List Txt} {k : Int} (h : fitsB l k = true) : (∀ s ∈ l, s.length ≤ 100) ∧ (l.length : Int) ≤ k := by
  simpa [fitsB] using h
theorem wN_short : ∀ (l : List Txt), (∀ s ∈ l, s.length ≤ 100) → (wN wS l).length ≤ 121 * l.length
  | [], _ => by simp [wN]
  | s :: l, h => by
    have h1 := wN_short l fun x hx => h x (List.mem_cons_of_mem _ hx)
    have h2 := h s List.mem_cons_self
    have h3 := wS_le (s := s) (by omega)
    have e := wN_app wS [s] l
    rw [List.singleton_append, wN_one] at e
    rw [e, List.length_append, List.length_cons]
    omega
theorem Whole.heads {n : Nat} {d : Disk} {l : List Txt} (h : Whole n d l) : ∃ k0 k1, d.secs.getD 0 [] = hdr k0 ∧ d.secs.getD 1 [] = hdr k1 ∧ k0 ≤ (wN wS l).length ∧ k1 ≤ (wN wS l).length ∧ (k0 = (wN wS l).length ∨ k1 = (wN wS l).length) := by
  obtain ⟨c, m, hi, hm, ho⟩ := h.ex
  rcases hi.c01 with rfl | rfl
  · exact ⟨_, m, hi.hd, ho, Nat.le_refl _, hm, .inl rfl⟩
  · exact ⟨m, _, ho, hi.hd, hm, Nat.le_refl _, .inr rfl⟩
theorem l4 (l : List Txt) : Spec Tryd.prog 4 [lst 1 (strs l)] (fun r => r = .bool true) := by
  refine Spec.of_awlS hf4 okf4 (by simp) fun S hS => ?_
  simp only [Qs, uu f4.eq_1, id @f4r52.eq_1, uu f4b53.eq_1, id @f4r54.eq_1, uu f4b55.eq_1]
  refine call_s l7 ?_
  simp only [Qs, Nat.reduceBEq, id @f4r49.eq_1, uu f4b50.eq_1, uu f4b51.eq_1]
  refine call_s (l8 l 8) ?_
  cases hfit : fitsB l 8 with
  | false =>
    simp only [Qs, List.nodup_nil, Nat.reduceBEq, id @f4r46.eq_1, uu f4b47.eq_1, uu f4b48.eq_1]
    exact hS
  | true =>
    obtain ⟨f1, f2⟩ := fits_yes hfit
    have hsh := wN_short l f1
    have h2000 : ∀ s ∈ l, s.length ≤ 2000 := fun s hs => by have := f1 s hs; omega
    have c9 := l9 80 (by decide) (by decide) l (by omega) h2000 (by omega)
    have hW := way_ok (n := 80) (by decide) (by decide) (l := l) (by omega) h2000 (by omega) l.length (Nat.le_refl _)
    rw [List.take_length] at hW
    generalize wayD 80 l l.length = D at c9 hW
    obtain ⟨c, m, hi, hm, ho⟩ := hW.ex
    have hsec := hW.secs
    have hR := hi.right
    have hup := hi.up
    have hpe := hi.pe
    obtain ⟨k0, k1, g0, g1, b0, b1, bb⟩ := hW.heads
    have c13 := r13 _ hR
    have hlt := log_take hR.se hi.holds hi.fit
    have hll := log_len hR.se
    simp only [dV, encD] at c9 c13
    simp only [Qs, Nat.reduceBEq, id @f4r44.eq_1, uu f4b45.eq_1, uu f4b48.eq_1]
    refine call_r c9 ?_
    have q0 : (D.secs.length : Int) = 80 := by omega
    simp only [hpe, hup, q0, strs_len, wrs_len, List.length_nil, normRows_strs, normRows_wrs, Qs, if_true, if_false, List.append_nil, Nat.reduceAdd, Nat.reduceMul, Nat.reduceLeDiff, Nat.reduceBEq, Int.reduceGT, Int.reduceBNe, uu f4b32.eq_1, id @f4r33.eq_1, uu f4b34.eq_1, uu f4b35.eq_1, id @f4r36.eq_1, uu f4b37.eq_1, uu f4b40.eq_1, id @f4r41.eq_1, uu f4b42.eq_1, uu f4b43.eq_1]
    rw [hup, hpe] at c13
    rw [uf4l31]
    refine awl_loop (fun i : Nat => [(0, lst 1 (strs l)), (3, .bool true), (4, .k (.ptr 4 0)), (6, .str (wN wS (l.take i))), (7, .int .i64 i)]) (fun _ => [(4, objC D.secs [] D.left false)]) (fun i => i ≤ l.length) (fun i => l.length - i) 0 rfl rfl (Nat.zero_le _) ?_
    intro i hil
    by_cases hlt2 : i < l.length
    · have c1 : (i : Int) < l.length := by omega
      have c4 : IntKind.i64.wrap ((i : Int) + 1) = (i : Int) + 1 := wrap_in (by omega) (by omega)
      have e2 : l.take (i + 1) = l.take i ++ [l[i]] := by rw [List.take_add_one, List.getElem?_eq_getElem hlt2]; rfl
      have hi1 := f1 _ (List.getElem_mem hlt2)
      have hw1 := wN_take_le l i
      have hs1 := wS_le (s := l[i]) (by omega)
      have e3 : wN wS (l.take i) ++ wS l[i] = wN wS (l.take (i + 1)) := by rw [e2, wN_app, wN_one]
      simp only [c1, c4, strs_len, strs_at hlt2, normRows_strs, Qs, if_true, Nat.reduceBEq, id @f4r23.eq_1, id @f4r24.eq_1, uu f4b25.eq_1, uu f4b26.eq_1, uu f4b27.eq_1, id @f4r28.eq_1, uu f4b29.eq_1, uu f4b30.eq_1]
      refine call_s (w11 l[i] (by omega)) ?_
      simp only [c1, c4, e3, strs_len, strs_at hlt2, normRows_strs, Qs, if_true, Nat.reduceBEq]
      exact ⟨by omega, Next.intro (i + 1) rfl rfl (by omega) (by omega)⟩
    · obtain rfl : i = l.length := by omega
      have c1 : ¬ (l.length : Int) < l.length := by omega
      have g0' := strs_at (l := D.secs) (i := 0) (by omega)
      have g1' := strs_at (l := D.secs) (i := 1) (by omega)
      have s0 : D.secs[0] = hdr k0 := by rw [← g0, List.getD_eq_getElem?_getD, List.getElem?_eq_getElem (by omega)]; rfl
      have s1 : D.secs[1] = hdr k1 := by rw [← g1, List.getD_eq_getElem?_getD, List.getElem?_eq_getElem (by omega)]; rfl
      rw [s0] at g0'
      rw [s1] at g1'
      simp only [c1, strs_len, List.take_length, normRows_strs, normRows_wrs, Qs, if_true, Nat.reduceAdd, Nat.reduceBEq, id @f4r21.eq_1, uu f4b22.eq_1, uu f4b27.eq_1, id @f4r28.eq_1, uu f4b29.eq_1, uu f4b30.eq_1]
      refine call_s c13 ?_
      have hlog : logD ⟨D.secs, [], D.left, false⟩ = logD D := rfl
      simp only [logD] at hlt hll ⊢
      generalize (D.secs.drop 2).flatten = log at hlt hll ⊢
      have b5 : ¬ (log.length : Int) < (wN wS l).length := by omega
      have b6 : ((wN wS l).length : Int) ≤ log.length := by omega
      have q1 : (0 : Int) < D.secs.length := by omega
      have q2 : (1 : Int) < D.secs.length := by omega
      simp only [b5, b6, hlt, q1, q2, g0', g1', strs_len, normRows_strs, normRows_wrs, Qs, if_true, if_false, BEq.rfl, Nat.reduceAdd, Nat.reduceLeDiff, Nat.reduceBEq, Int.reduceLE, Int.reduceToNat, id @f4r9.eq_1, uu f4b10.eq_1, id @f4r11.eq_1, uu f4b12.eq_1, id @f4r13.eq_1, uu f4b14.eq_1, uu f4b17.eq_1, id @f4r18.eq_1, uu f4b19.eq_1, uu f4b20.eq_1]
      have n0 : Spec Tryd.prog 15 [.str (hdr k0)] (fun r => r = .int .i64 (k0 : Int)) := by
        have := r15 (hdr k0) (hdr_len _)
        rw [num_hdr (by omega)] at this
        exact this
      have n1 : Spec Tryd.prog 15 [.str (hdr k1)] (fun r => r = .int .i64 (k1 : Int)) := by
        have := r15 (hdr k1) (hdr_len _)
        rw [num_hdr (by omega)] at this
        exact this
      have t0 : (k0 : Int) ≥ 0 := by omega
      have t1 : (k1 : Int) ≥ 0 := by omega
      have t2 : (k0 : Int) ≤ (wN wS l).length := by omega
      have t3 : (k1 : Int) ≤ (wN wS l).length := by omega
      refine call_s (r14 (wN wS l).length (by omega)) ?_
      generalize hK : (wN wS l).length = K at bb t2 t3 ⊢
      by_cases he : hdr k0 = hdr K
      · simp only [he, Qs, BEq.rfl, Nat.reduceBEq, id @f4r1.eq_1, uu f4b2.eq_1, uu f4b5.eq_1, id @f4r6.eq_1, uu f4b7.eq_1, uu f4b8.eq_1]
        rw [he] at n0
        refine call_s n0 ?_
        simp only [t0, hK, Qs, if_true, Nat.reduceBEq]
        refine call_s n0 ?_
        simp only [t2, hK, Qs, if_true, Nat.reduceBEq]
        refine call_s n1 ?_
        simp only [t1, hK, Qs, if_true, Nat.reduceBEq]
        refine call_s n1 ?_
        simp only [t3, hK, Qs, if_true, List.nodup_nil, Nat.reduceBEq]
        exact hS
      · have he2 : hdr k1 = hdr K := by
          rcases bb with rfl | rfl
          · exact absurd rfl he
          · rfl
        simp only [he, he2, Qs, if_true, forall_const, BEq.rfl, Nat.reduceBEq, id @f4r1.eq_1, uu f4b2.eq_1, uu f4b5.eq_1, id @f4r6.eq_1, uu f4b7.eq_1, uu f4b8.eq_1]
        rw [he2] at n1
        refine call_s n0 ?_
        simp only [t0, hK, Qs, if_true, Nat.reduceBEq]
        refine call_s n0 ?_
        simp only [t2, hK, Qs, if_true, Nat.reduceBEq]
        refine call_s n1 ?_
        simp only [t1, hK, Qs, if_true, Nat.reduceBEq]
        refine call_s n1 ?_
        simp only [t3, hK, Qs, if_true, List.nodup_nil, Nat.reduceBEq]
        exact hS
end Go.Abs


set_option maxRecDepth 100000
namespace Go.Abs
open Go.Wire
section
variable {P : Program}
theorem arg_ss {n : Nat} {t e : TypeId} {r : List C} (ht : P.underlying t = some (.slice e)) (he : P.underlying e = some .string) (hc : P.cellsOf e = 1) (hr : Shape P n t r) : ∃ l : List Txt, argV P t r = lst 1 (strs l) := by
  obtain ⟨m, rows, rfl, rfl, _, h⟩ := shape_slice ht hr
  obtain ⟨l, rfl⟩ := rows_of encS (fun r hr => by obtain ⟨x, rfl, _⟩ := shape_str he hr; exact ⟨x, rfl⟩) rows h
  exact ⟨l, by simp only [argV, ht, hc]; rfl⟩
end
theorem ifc_trod {H : Type} {enc : TypeId × Value → H} {P : Program} {w : World} {base : Nat} {sp : Nat → Bool} {held : Bool} {fuel : Nat} {t : TypeId} {ms : Array (String × TypeId)} {cs : List Value} {x : DataW H × List MemPlace}
    (ht : P.underlying t = some (.interface ms)) (h : DataW.trod enc P w base sp held fuel t cs = some x) : ∃ v, cs = [v] ∧ (v = .nilIface ∨ ∃ t p, v = .iface t p) := by
  cases fuel with
  | zero => simp [DataW.trod] at h
  | succ n =>
    unfold DataW.trod at h
    rw [ht] at h
    split at h <;> simp_all
end Go.Abs
namespace Go.Proofs.YtdgcoipbcloieaaDoor
open Go.Abs Go.RowKit Go.ChangeShapes Go.WideShapes Go.ChangeAt Go.WideMaps Go.WideElems Go.Wire
theorem own : ownKnob Tryd.prog.godebug = none := by kernel_rfl
theorem kids : Kids Tryd.prog (· < Tryd.prog.types.size) := kids_rows (by kernel_rfl) (by kernel_rfl)
theorem full : ∀ t e, t < Tryd.prog.types.size → Tryd.prog.underlying t = some (.slice e) → 0 < Tryd.prog.cellsOf e := slices_full_of Tryd.prog (by kernel_rfl)
def plainTs : List TypeId := [3, 4, 9, 22]
theorem plainTs_ok : plainT Tryd.prog plainTs = true := by kernel_rfl
theorem plainTs_lt : ∀ t ∈ plainTs, t < Tryd.prog.types.size := by
  have : plainTs.all (fun t => decide (t < Tryd.prog.types.size)) = true := by kernel_rfl
  simpa using this
theorem one9 : Tryd.prog.cellsOf 9 = 1 := by kernel_rfl
abbrev laidL : List (String × DataW Unit) := Rows.journalBytesRow.laid
theorem block_of {W : World} {name : String} {g : Nat} {cs : Array Value} (hn : Tryd.prog.globalNamed name = some g) (hv : W.var? Tryd.prog name = some cs) : ∃ t f, W.heap[g]? = some (.cells cs t f) := by
  unfold World.var? at hv
  rw [hn, Option.bind_some] at hv
  split at hv
  · rename_i h
    cases hv
    exact ⟨_, _, h⟩
  · cases hv
theorem err_of {W : World} (h : laidMet Tryd.prog laidL W) {name : String} {g : Nat} {d : DataW Unit} (hn : Tryd.prog.globalNamed name = some g) (ht : (Tryd.prog.globals[g]?).map (·.type) = some 75) (hm : (name, d) ∈ laidL) :
    g < W.heap.size ∧ ∃ b, W.heap[g]? = some b ∧ cell0 (fun v => v = .nilIface ∨ ∃ t p, v = .iface t p) b := by
  obtain ⟨g', t', cs, fuel, p, hg, hty, hvar, hd⟩ := Lib.laidMet.reads h hm
  obtain rfl := Option.some.inj (hn.symm.trans hg)
  obtain rfl := Option.some.inj (ht.symm.trans hty)
  obtain ⟨v, e, hv⟩ := ifc_trod Tryd.underlying75 hd
  obtain ⟨t, f, hb⟩ := block_of hn hvar
  refine ⟨(Array.getElem?_eq_some_iff.1 hb).1, _, hb, v, ?_, hv⟩
  rw [← Array.getElem?_toList, e]; rfl
theorem glob_of {W : World} (hL : laidMetH Tryd.prog laidL W) (hsh : W.ShapedOpen Tryd.prog) : GlobB (Go.Abs.base W) := by
  rw [MakeChecks.laidMetH_plain _ _ _ (by kernel_rfl)] at hL
  refine ⟨(fun _ _ h => nomatch h), fun g p hg => ?_⟩
  match g, hg with
  | 0, hg =>
    cases hg
    obtain ⟨m, hm⟩ := cell_of_shapedOpen_int (zero := #[.int .i64 0]) (t := 3) (k := .i64) (g := 0) hsh (of_decide_eq_true (by kernel_rfl)) (by kernel_rfl) rfl (by kernel_rfl) (by kernel_rfl) Tryd.underlying3
    unfold World.cell? at hm
    cases hb : W.heap[0]? with
    | none => rw [hb] at hm; simp at hm
    | some ob =>
      refine ⟨(Array.getElem?_eq_some_iff.1 hb).1, ob, rfl, ?_⟩
      rw [hb] at hm
      cases ob with
      | cells cs t f => exact ⟨_, by simpa using hm, m, rfl⟩
      | _ => simp at hm
  | 2, hg => cases hg; exact err_of hL (name := "strconv.ErrSyntax") (by kernel_rfl) (by kernel_rfl) (.tail _ (.tail _ (.tail _ (.tail _ (.head _)))))
  | 3, hg => cases hg; exact err_of hL (name := "strconv.ErrRange") (by kernel_rfl) (by kernel_rfl) (.tail _ (.tail _ (.tail _ (.head _))))
  | 1, hg =>
    cases hg
    obtain ⟨g', t', cs, fuel, p, hg', hty, hvar, hd⟩ := Lib.laidMet.reads hL (n := "internal/strconv.uint64pow10") (.tail _ (.tail _ (.head _)))
    have hn : Tryd.prog.globalNamed "internal/strconv.uint64pow10" = some 1 := by kernel_rfl
    obtain rfl := Option.some.inj (hn.symm.trans hg')
    have hT : (Tryd.prog.globals[1]?).map (·.type) = some 112 := by kernel_rfl
    obtain rfl := Option.some.inj (hT.symm.trans hty)
    obtain ⟨t, f, hb⟩ := block_of hn hvar
    refine ⟨(Array.getElem?_eq_some_iff.1 hb).1, _, hb, ?_⟩
    have hd' : DataW.trod (fun _ => ()) Tryd.prog W 0 (fun _ => true) false fuel 112 cs.toList = some (Lib.tabData .u64 pow10T, p) := hd
    have e := Lib.cells_of_tab Tryd.underlying112 Tryd.underlying91 (by kernel_rfl) (by kernel_rfl) hd'
    show cs = _
    rw [← e]
theorem door_met (os : Os) (args : Array Value) : laidMetH Tryd.prog laidL ((World.doorLaid Tryd.prog 400 os).forCall (fun _ _ => 0) ⟨#[], args, []⟩).memory :=
  laidMetH_of_parts3 (fuel := 8) (laidMet_of_run' 8 (by kernel_rfl) (by kernel_rfl)) (by kernel_rfl) (by kernel_rfl)
end Go.Proofs.YtdgcoipbcloieaaDoor


set_option maxRecDepth 100000
set_option maxHeartbeats 4000000
namespace Go.Abs
open Go.Proofs Go.Wire Go.RowKit Go.Jr
theorem wI_100 {n : Nat} (h : n ≤ 100) : (wI n).length ≤ 4 := by
  have h1 : (List.range 101).all (fun n => decide ((wI n).length ≤ 4)) = true := by kernel_rfl
  exact of_decide_eq_true (List.all_eq_true.1 h1 n (List.mem_range.2 (by omega)))
theorem wS_100 {s : Txt} (h : s.length ≤ 100) : (wS s).length ≤ 104 := by
  have := wI_100 h
  rw [wS, List.length_append]; omega
theorem wN_100 : ∀ (l : List Txt), (∀ s ∈ l, s.length ≤ 100) → (wN wS l).length ≤ 104 * l.length
  | [], _ => by simp [wN]
  | s :: l, h => by
    have h1 := wN_100 l fun x hx => h x (List.mem_cons_of_mem _ hx)
    have h3 := wS_100 (h s List.mem_cons_self)
    have e := wN_app wS [s] l
    rw [List.singleton_append, wN_one] at e
    rw [e, List.length_append, List.length_cons]
    omega
theorem inv_up {d : Disk} {l : List Txt} {c : Nat} (h : Jr.Inv d l c) : Jr.Inv ⟨d.secs, [], -1, false⟩ l c := by
  have := armed h (k := 0) (by decide) (by decide)
  have hr := h.right
  exact ⟨⟨hr.lo, hr.hi, by simp, by simp, by simp, fun e => absurd e (by simp), hr.se, by simp⟩, rfl, rfl, h.n3, h.len, h.each, h.fit, h.holds, h.c01, h.hd, h.ot⟩
end Go.Abs


set_option maxRecDepth 100000
set_option maxHeartbeats 4000000
namespace Go.Abs
open Go.Proofs Go.Wire Go.RowKit Go.Jr
def waysC (l : List Txt) (k : Nat) : List (List C) := (List.range k).map fun j => encD (wayD 80 l j)
theorem ways_len (l : List Txt) (k : Nat) : (waysC l k).length = k := by simp [waysC]
theorem take_strs (l : List Txt) (i : Nat) : (strs l).take i = strs (l.take i) := by rw [strs, strs, List.map_take]
theorem ways_snoc (l : List Txt) (k : Nat) : waysC l k ++ [[lstC 1 (strs (wayD 80 l k).secs), lstC 2 (wrs (wayD 80 l k).pend), .int .i64 (wayD 80 l k).left, .bool (wayD 80 l k).down]] = waysC l (k + 1) := by rw [waysC, waysC, List.range_succ, List.map_append]; rfl
theorem ways_at (l : List Txt) {i k : Nat} (h : i < k) : (waysC l k).getD i [] = [lstC 1 (strs (wayD 80 l i).secs), lstC 2 (wrs (wayD 80 l i).pend), .int .i64 (wayD 80 l i).left, .bool (wayD 80 l i).down] := by
  rw [List.getD_eq_getElem?_getD, waysC, List.getElem?_map, List.getElem?_range h]; rfl
theorem normRows_ways (l : List Txt) (k : Nat) : C.normRows (waysC l k) = waysC l k :=
  normRows_eq (f := fun j => encD (wayD 80 l j)) (fun j => by simp only [encD, C.normRow, norm_s, norm_w, norm_int, norm_bool]) (List.range k)
theorem l5 (l : List Txt) : Spec Tryd.prog 5 [lst 1 (strs l)] (fun r => r = .bool true) := by
  refine Spec.of_awlS hf5 okf5 (by simp) fun S hS => ?_
  simp only [Qs, uu f5.eq_1, id @f5r80.eq_1, uu f5b81.eq_1, id @f5r82.eq_1, uu f5b83.eq_1]
  refine call_s l7 ?_
  simp only [Qs, Nat.reduceBEq, id @f5r77.eq_1, uu f5b78.eq_1, uu f5b79.eq_1]
  refine call_s (l8 l 8) ?_
  cases hfit : fitsB l 8 with
  | false =>
    simp only [Qs, List.nodup_nil, Nat.reduceBEq, id @f5r74.eq_1, uu f5b75.eq_1, uu f5b76.eq_1]
    exact hS
  | true =>
    obtain ⟨f1, f2⟩ := fits_yes hfit
    have h100 := wN_100 l f1
    have h2000 : ∀ s ∈ l, s.length ≤ 2000 := fun s hs => by have := f1 s hs; omega
    have hW : ∀ i, i ≤ l.length → Whole 80 (wayD 80 l i) (l.take i) := way_ok (n := 80) (by decide) (by decide) (l := l) (by omega) h2000 (by omega)
    have c16 := r16 80 (by decide) (by decide)
    have c17 := b17 _ (right_new (n := 80) (by decide) (by decide))
    rw [(way_start (n := 80) (by decide) (by decide)).1] at c17
    simp only [resD, dV, encD] at c16 c17
    simp only [normRows_strs, normRows_wrs, Qs, id @f5r72.eq_1, uu f5b73.eq_1, uu f5b76.eq_1]
    refine call_r c16 ?_
    simp only [normRows_strs, normRows_wrs, Qs, if_true, List.append_nil, Nat.reduceAdd, Nat.reduceMul, Nat.reduceBEq, id @f5r70.eq_1, uu f5b71.eq_1]
    refine call_r c17 ?_
    simp only [normRows_strs, normRows_wrs, Qs, q_vRow_eq_2, if_true, forall_eq, bne_iff_ne, ne_eq, List.append_nil, List.mem_cons, Nat.reduceAdd, Nat.reduceMul, Nat.reduceEqDiff, Nat.reduceLT, Nat.reduceBEq, List.not_mem_nil, uu f5b64.eq_1, id @f5r65.eq_1, uu f5b66.eq_1, uu f5b67.eq_1, id @f5r68.eq_1, uu f5b69.eq_1]
    rw [uf5l63]
    refine awl_loop (fun i : Nat => [(0, lst 1 (strs l)), (3, .bool true), (6, .k (.ptr 6 0)), (7, .int .i64 0), (8, .k (.own 37)), (9, .int .i64 i)])
      (fun i => [(6, objC (wayD 80 l i).secs (wayD 80 l i).pend (wayD 80 l i).left (wayD 80 l i).down), (37, .arr 27 4 (some false) (waysC l (i + 1)))])
      (fun i => i ≤ l.length) (fun i => l.length - i) 0 rfl rfl (Nat.zero_le _) ?_
    intro i hi
    by_cases hlt : i < l.length
    · have c1 : (i : Int) < l.length := by omega
      have c4 : IntKind.i64.wrap ((i : Int) + 1) = (i : Int) + 1 := wrap_in (by omega) (by omega)
      have hR := (hW i hi).right
      have c11 := b11 _ hR l[i] (by have := f1 _ (List.getElem_mem hlt); omega)
      rw [way_step (n := 80) (by decide) (by decide) (by omega) h2000 (by omega) hlt] at c11
      simp only [c1, c4, strs_len, strs_at hlt, normRows_strs, normRows_wrs, normRows_ways, Qs, if_true, BEq.rfl, Nat.reduceAdd, Nat.reduceBEq, id @f5r53.eq_1, id @f5r54.eq_1, id @f5r55o0.eq_1, id @f5r55o1.eq_1, id @f5r55o2.eq_1, id @f5r55o3.eq_1, id @f5r55o4.eq_1, id @f5r55o5.eq_1, id @f5r55o6.eq_1, id @f5r55o7.eq_1, id @f5r55o8.eq_1, id @f5r55o9.eq_1, id @f5r55o10.eq_1, utf5r55, uu f5b56.eq_1, uu f5b57.eq_1, uu f5b58.eq_1, uu f5b59.eq_1, id @f5r60.eq_1, uu f5b61.eq_1, uu f5b62.eq_1]
      refine callQ_R c11 ?_ rfl (by simp [lendL, V.norm, C.normRow, dV, encD, norm_list, norm_lst, normRows_strs, normRows_wrs]) rfl
      simp only [resD, dV, encD, c4, ways_len, ways_snoc, normRows_strs, normRows_wrs, normRows_ways, Qs, q_vRow_eq_2, if_true, if_false, forall_eq, bne_iff_ne, ne_eq, List.append_nil, List.mem_cons, Nat.reduceAdd, Nat.reduceEqDiff, Nat.reduceLeDiff, Nat.reduceLT, Nat.reduceBEq, List.not_mem_nil]
      exact ⟨by omega, by omega, Next.intro (i + 1) rfl rfl (by omega) (by omega)⟩
    · obtain rfl : i = l.length := by omega
      have c1 : ¬ (l.length : Int) < l.length := by omega
      have c5 : IntKind.i64.wrap ((l.length : Int) + 1) = ((l.length + 1 : Nat) : Int) := by rw [wrap_in (by omega) (by omega)]; omega
      simp only [c1, c5, strs_len, ways_len, normRows_strs, normRows_wrs, normRows_ways, Qs, q_vLen_eq_2, q_lenO_eq_1, if_true, if_false, forall_const, List.nodup_nil, Nat.reduceBEq, not_true_eq_false, Int.reduceBNe, uu f5b43.eq_1, id @f5r44.eq_1, uu f5b45.eq_1, uu f5b46.eq_1, id @f5r47.eq_1, uu f5b48.eq_1, uu f5b49.eq_1, id @f5r50.eq_1, uu f5b51.eq_1, uu f5b52.eq_1, uu f5b59.eq_1, id @f5r60.eq_1, uu f5b61.eq_1, uu f5b62.eq_1]
      rw [uf5l42]
      refine awl_loop (fun i : Nat => [(0, lst 1 (strs l)), (3, .bool true), (8, .k (.own 37)), (10, .int .i64 i)])
        (fun _ => [(37, .arr 27 4 (some false) (waysC l (l.length + 1)))])
        (fun i => i ≤ l.length + 1) (fun i => l.length + 1 - i) 0 rfl rfl (Nat.zero_le _) ?_
      intro i hi
      by_cases hlt : i < l.length + 1
      · have c1 : (i : Int) < ((l.length + 1 : Nat) : Int) := by omega
        have c4 : IntKind.i64.wrap ((i : Int) + 1) = (i : Int) + 1 := wrap_in (by omega) (by omega)
        obtain ⟨c, m, hin, hm, ho⟩ := (hW i (by omega)).ex
        have hRE := hin.right
        have c18 := b18 _ hRE
        rw [show cutD (wayD 80 l i) = (⟨(wayD 80 l i).secs, [], -1, true⟩, 0) by rw [cutD, if_neg (by simp [hin.up])]] at c18
        have iu := inv_up hin
        have c19 := b19 ⟨(wayD 80 l i).secs, [], -1, true⟩ (right_down iu.right)
        rw [show startD ⟨(wayD 80 l i).secs, [], -1, true⟩ = (⟨(wayD 80 l i).secs, [], -1, false⟩, 0) from rfl] at c19
        have c20 := b20 _ iu.right
        rw [iu.read] at c20
        have c20' := b20 _ hRE
        rw [hin.read] at c20'
        have c21 := w26 (l.take i) (l.take i)
        rw [decide_eq_true rfl] at c21
        have c22 : ∀ j, j < i → Spec Tryd.prog 22 [dV ⟨(wayD 80 l i).secs, [], -1, false⟩, .int .i64 j] (fun r => r = .tup [.str (l.getD j []), .int .i64 0]) := by
          intro j hj
          have := b22 _ iu.right j
          rw [iu.read] at this
          have e : getJ (⟨l.take i, wN wS (l.take i), c⟩, 0) j = (l.getD j [], 0) := by
            rw [getJ, if_neg (by simp), if_neg (by simp only [List.length_take]; omega)]
            simp [List.getElem?_take, hj]
          rw [e] at this
          exact this
        simp only [resD, dV, encD] at *
        simp only [c1, c4, ways_len, ways_at l hlt, normRows_strs, normRows_wrs, normRows_ways, Qs, q_vLen_eq_2, q_lenO_eq_1, q_loadO_eq_2, q_isA_eq_1, q_vLoad_eq_3, q_vIaddr_eq_2, q_idxO_eq_1, if_true, Nat.reduceBEq, id @f5r3.eq_1, id @f5r34.eq_1, uu f5b35.eq_1, uu f5b36.eq_1, uu f5b37.eq_1, uu f5b38.eq_1, id @f5r39.eq_1, uu f5b40.eq_1, uu f5b41.eq_1]
        refine call_r c18 ?_
        simp only [c1, c4, ways_len, ways_at l hlt, normRows_strs, normRows_wrs, normRows_ways, Qs, q_K_noRef_eq_4, if_true, bne_iff_ne, ne_eq, Int.reduceNeg, List.append_nil, Nat.reduceAdd, Nat.reduceMul, Nat.reduceEqDiff, Nat.reduceBEq, id @f5r32.eq_1, uu f5b33.eq_1]
        refine call_r c19 ?_
        simp only [c1, c4, ways_len, ways_at l hlt, normRows_strs, normRows_wrs, normRows_ways, Qs, q_loadO_eq_2, q_isA_eq_1, q_vLoad_eq_3, q_vIaddr_eq_2, q_idxO_eq_1, q_K_noRef_eq_4, if_true, bne_iff_ne, ne_eq, Int.reduceNeg, List.append_nil, Nat.reduceAdd, Nat.reduceMul, Nat.reduceEqDiff, Nat.reduceBEq, id @f5r30.eq_1, uu f5b31.eq_1]
        refine call_r c20' ?_
        simp only [c1, c4, ways_len, ways_at l hlt, normRows_strs, normRows_wrs, normRows_ways, Qs, if_true, Int.reduceNeg, List.append_nil, Nat.reduceAdd, Nat.reduceMul, Nat.reduceBEq, id @f5r28.eq_1, uu f5b29.eq_1]
        refine call_r c20 ?_
        simp only [c1, c4, strs_len, take_strs, ways_len, ways_at l hlt, normRows_strs, normRows_wrs, normRows_ways, Qs, q_AOp_dst_eq_18, q_exL_eq_19, q_V_toks_eq_1, q_K_toks_eq_5, if_true, if_false, Int.reduceNeg, List.append_nil, Nat.reduceAdd, Nat.reduceMul, Nat.reduceBEq, r_vSlice_lst, r_cutS2, Int.reduceLE, Int.reduceBNe, id @f5r25.eq_1, uu f5b26.eq_1, uu f5b27.eq_1]
        refine ⟨by omega, call_s c21 ?_⟩
        simp only [c1, c4, strs_len, take_strs, ways_len, ways_at l hlt, normRows_strs, normRows_wrs, normRows_ways, Qs, if_false, Int.reduceNeg, Nat.reduceBEq]
        refine call_s c21 ?_
        simp only [c1, c4, strs_len, take_strs, ways_len, ways_at l hlt, normRows_strs, normRows_wrs, normRows_ways, Qs, if_false, Int.reduceNeg, Nat.reduceBEq, uu f5b19.eq_1, id @f5r20.eq_1, uu f5b21.eq_1, uu f5b24.eq_1]
        rw [uf5l18]
        refine awl_loop (fun j : Nat => [(0, lst 1 (strs l)), (3, .bool true), (8, .k (.own 37)), (10, .int .i64 i), (13, .k (.ptr 13 0)), (19, .int .i64 j)])
          (fun _ => [(13, objC (wayD 80 l i).secs [] (-1) false), (37, .arr 27 4 (some false) (waysC l (l.length + 1)))])
          (fun j => j ≤ i) (fun j => i - j) 0 rfl rfl (Nat.zero_le _) ?_
        intro j hj
        by_cases hlt2 : j < i
        · have d1 : (j : Int) < i := by omega
          have d2 : (j : Int) < l.length := by omega
          have d4 : IntKind.i64.wrap ((j : Int) + 1) = (j : Int) + 1 := wrap_in (by omega) (by omega)
          have hjl : j < l.length := by omega
          have e : l.getD j [] = l[j] := by simp [hjl]
          have c22j := c22 j hlt2
          rw [e] at c22j
          simp only [d1, d2, d4, strs_len, strs_at hjl, normRows_strs, normRows_wrs, normRows_ways, Qs, if_true, Int.reduceNeg, Nat.reduceAdd, Nat.reduceBEq, id @f5r4.eq_1, id @f5r10.eq_1, uu f5b11.eq_1, uu f5b12.eq_1, uu f5b13.eq_1, uu f5b14.eq_1, id @f5r15.eq_1, uu f5b16.eq_1, uu f5b17.eq_1]
          refine call_s c22j ?_
          simp only [d1, d2, d4, strs_len, strs_at hjl, normRows_strs, normRows_wrs, normRows_ways, Qs, q_AOp_dst_eq_22, if_true, if_false, Int.reduceNeg, BEq.rfl, Nat.reduceBEq, Int.reduceBNe, uu f5b7.eq_1, id @f5r8.eq_1, uu f5b9.eq_1]
          exact Next.intro (j + 1) rfl rfl (by omega) (by omega)
        · obtain rfl : j = i := by omega
          have d1 : ¬ (j : Int) < j := by omega
          simp only [d1, c4, strs_len, normRows_strs, normRows_wrs, normRows_ways, Qs, if_true, if_false, Int.reduceNeg, Nat.reduceEqDiff, Nat.reduceBEq, Nat.succ_ne_self, uu f5b14.eq_1, id @f5r15.eq_1, uu f5b16.eq_1, uu f5b17.eq_1]
          exact Next.intro (j + 1) rfl rfl (by omega) (by omega)
      · obtain rfl : i = l.length + 1 := by omega
        have c1 : ¬ ((l.length + 1 : Nat) : Int) < ((l.length + 1 : Nat) : Int) := by omega
        simp only [c1, strs_len, ways_len, normRows_strs, normRows_wrs, normRows_ways, Qs, q_vLen_eq_2, q_lenO_eq_1, if_true, List.nodup_nil, Nat.reduceBEq, id @f5r1.eq_1, uu f5b2.eq_1, uu f5b38.eq_1, id @f5r39.eq_1, uu f5b40.eq_1, uu f5b41.eq_1]
        exact hS
end Go.Abs


set_option maxRecDepth 100000
namespace Go.Proofs.YtdgcoipbcloieaaDoor
open Go.Abs Go.RowKit Go.ChangeShapes Go.WideShapes Go.ChangeAt Go.WideMaps Go.WideElems Go.Wire
theorem spec5 (xs : List V) (h : ArgsOf Tryd.prog [22] xs) : Go.Abs.Spec Tryd.prog 5 xs (fun r => r = .bool true) := by
  match xs, h with
  | [a0], ⟨⟨_, _, h0, q0⟩, _⟩ =>
    obtain ⟨x0, e0⟩ := arg_ss Tryd.underlying22 Tryd.underlying9 one9 h0
    rw [q0, e0]
    exact l5 x0
theorem reads5 (os : Os) {H : Type} (enc : TypeId × Value → H) : ∃ places, DataW.whole enc Tryd.prog ((World.doorLaid Tryd.prog 400 os).forCall (fun _ _ => 0) ⟨#[], #[Value.slice none 0 0], []⟩).memory Tryd.f5.params.toList Rows.journalKeepsSpec.vars false #[Value.slice none 0 0].toList 8 = some ([.nil], [], places) :=
  ⟨[], by kernel_rfl⟩
theorem lifted5 (os : Os) (started : os.Started) (H : Type) (enc : TypeId × Value → H) (F : Stop.Interp) :
    ReturnsInHanded {} Tryd.checked os 5 .any ((OpenSpec.ofChange Rows.journalKeepsSpec).preRow enc Tryd.prog Tryd.f5 Rows.journalKeepsRow.domain false Rows.journalKeepsRow.laid) (((OpenSpec.ofChange Rows.journalKeepsSpec).at F).post enc Tryd.prog Tryd.f5 false true false false) := by
  obtain ⟨places, hx⟩ := reads5 os enc
  refine returnsInHanded_of_row (C := Tryd.checked) (s := OpenSpec.ofChange Rows.journalKeepsSpec) own started (by kernel_rfl) Tryd.func5
    (witness_row_atRef (enc := enc) (C := Tryd.checked) false (World.doorLaid Tryd.prog 400 os) #[Value.slice none 0 0] rfl (by kernel_rfl) (by kernel_rfl) (by kernel_rfl)
      (OpenSpec.preRow_of_cond 8 hx (by kernel_rfl) (fun k hk => by cases hk) (by kernel_rfl) (door_met os _))) ?_
  intro W base args ds gs before hval hW _ hcond _ hL hsh _
  refine law_contract (C := Tryd.checked) (T := plainTs) (tb := 4) (s := Rows.journalKeepsSpec) plainTs_ok plainTs_lt ?_ kids full rfl ?_ ?_ Tryd.underlying4 ?_ W base args ds gs before hval hW (glob_of hL hsh)
  · rw [Tryd.params5]; decide
  · intro ds hds
    rw [Tryd.params5] at hds
    match ds, hds with
    | [a0], _ => rfl
  · kernel_rfl
  · intro xs hxs
    rw [Tryd.params5] at hxs
    exact spec5 xs hxs
theorem JournalKeeps_row : Rows.JournalKeepsSaid :=
  OpenClaim.holds_of_cond 5 Tryd.f5 rfl rfl rfl rfl rfl rfl rfl ⟨rfl, rfl, rfl, rfl, rfl⟩ rfl rfl rfl rfl rfl (by kernel_rfl) Tryd.func5 (by kernel_rfl)
    (of_decide_eq_true (by kernel_rfl)) (by unfold Func.isWrapper; first | (rw [if_pos (by decide +kernel)]; kernel_rfl) | (rw [if_neg (by decide +kernel)]; exact ⟨rfl, rfl⟩))
    (fun os started H enc _ F => by rw [OpenClaim.pre_eq_preRow]; exact lifted5 os started H enc F)
theorem JournalKeeps_holds : Rows.JournalKeepsCardSaid :=
  Claim7.holds_tied_plain_at .later [] _ _ _ _ JournalKeeps_row (fun _ h => by cases h) (by kernel_rfl) (fun _ h => by cases h) journalKeeps_row_tie rfl ⟨rfl, rfl⟩ (by kernel_rfl) rfl
    (fun f fn hf hfn => by
      obtain rfl : f = 5 := Option.some.inj ((show Tryd.prog.funcNamed "allonge/allongelaw08.JournalKeeps" = some 5 by kernel_rfl).symm.trans hf) |>.symm
      obtain rfl : fn = Tryd.f5 := (Option.some.inj (Tryd.func5.symm.trans hfn)).symm
      exact ⟨by kernel_rfl, fun j t ht => by
        rw [Tryd.params5] at ht
        have hm : t ∈ [22] := by simpa using Array.mem_of_getElem? ht
        have hall : ([22].all fun u => !Tryd.prog.wantsStandIn u) = true := by kernel_rfl
        exact (show Tryd.prog.wantsStandIn t = false by simpa using List.all_eq_true.1 hall t hm)⟩)
    (by kernel_rfl)
end Go.Proofs.YtdgcoipbcloieaaDoor

