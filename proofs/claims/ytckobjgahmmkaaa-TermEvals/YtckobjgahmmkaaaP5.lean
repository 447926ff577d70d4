/- A part of the proof; the last text states what is proved. -/
import Derived.Test.YtckobjgahmmkaaaP4
import Derived.Test.YtckobjgahmmkaaaProg
set_option linter.unusedVariables false
set_option linter.unusedSimpArgs false
namespace Go.Abs
section
variable {P : Program}
theorem shape_int {n : Nat} {t : TypeId} {r : List C} {k : IntKind} (hu : P.underlying t = some (.int k)) (h : Shape P n t r) : ∃ m : Int, r = [.int k m] ∧ (Lit.int k m).wf = true := by
  cases n with
  | zero => exact h.elim
  | succ n => simp only [Shape, hu] at h; exact h
theorem shape_bool {n : Nat} {t : TypeId} {r : List C} (hu : P.underlying t = some .bool) (h : Shape P n t r) : ∃ b : Bool, r = [.bool b] := by
  cases n with
  | zero => exact h.elim
  | succ n => simp only [Shape, hu] at h; exact h
theorem shape_slice {n : Nat} {t e : TypeId} {r : List C} (hu : P.underlying t = some (.slice e)) (h : Shape P n t r) : ∃ m rows, n = m + 1 ∧ r = [lstC (P.cellsOf e) rows] ∧ rows.length ≤ 9223372036854775807 ∧ ∀ x ∈ rows, Shape P m e x := by
  cases n with
  | zero => exact h.elim
  | succ n => simp only [Shape, hu] at h; obtain ⟨rows, h1, h2, h3⟩ := h; exact ⟨n, rows, rfl, h1, h2, h3⟩
theorem shape_struct {n : Nat} {t : TypeId} {fs : Array Field} {r : List C} (hu : P.underlying t = some (.struct fs)) (h : Shape P n t r) : ∃ m rs, n = m + 1 ∧ r = rs.flatten ∧ ShapeL (Shape P m) (fs.toList.map (·.type)) rs := by
  cases n with
  | zero => exact h.elim
  | succ n => simp only [Shape, hu] at h; obtain ⟨rs, h1, h2⟩ := h; exact ⟨n, rs, rfl, h1, h2⟩
theorem shapeL2 {S : TypeId → List C → Prop} {a b : TypeId} {rs : List (List C)} (h : ShapeL S [a, b] rs) : ∃ x y, rs = [x, y] ∧ S a x ∧ S b y := by
  match rs, h with
  | [x, y], h => exact ⟨x, y, rfl, h.1, h.2.1⟩
theorem shapeL3 {S : TypeId → List C → Prop} {a b c : TypeId} {rs : List (List C)} (h : ShapeL S [a, b, c] rs) : ∃ x y z, rs = [x, y, z] ∧ S a x ∧ S b y ∧ S c z := by
  match rs, h with
  | [x, y, z], h => exact ⟨x, y, z, rfl, h.1, h.2.1, h.2.2.1⟩
theorem rows_of {α : Type} {S : List C → Prop} (enc : α → List C) (hS : ∀ r, S r → ∃ a, r = enc a) : ∀ (rows : List (List C)), (∀ r ∈ rows, S r) → ∃ l : List α, rows = l.map enc
  | [], _ => ⟨[], rfl⟩
  | r :: rows, h => by
    obtain ⟨a, ha⟩ := hS r (h r (by simp))
    obtain ⟨l, hl⟩ := rows_of enc hS rows (fun x hx => h x (by simp [hx]))
    exact ⟨a :: l, by rw [ha, hl]; rfl⟩
structure TermTypes (P : Program) (tI tB tS tT tLT tR tLR tC tLC tO : TypeId) : Prop where
  i : P.underlying tI = some (.int .i64)
  b : P.underlying tB = some .bool
  s : P.underlying tS = some .string
  t : ∃ fs, P.underlying tT = some (.struct fs) ∧ fs.toList.map (·.type) = [tI, tI, tLT]
  lt : P.underlying tLT = some (.slice tT) ∧ P.cellsOf tT = 3
  r : ∃ fs, P.underlying tR = some (.struct fs) ∧ fs.toList.map (·.type) = [tI, tT]
  lr : P.underlying tLR = some (.slice tR) ∧ P.cellsOf tR = 4
  c : ∃ fs, P.underlying tC = some (.struct fs) ∧ fs.toList.map (·.type) = [tI, tI, tB]
  lc : P.underlying tLC = some (.slice tC) ∧ P.cellsOf tC = 3
  o : ∃ fs, P.underlying tO = some (.struct fs) ∧ fs.toList.map (·.type) = [tS, tB, tLC, tLR]
variable {tI tB tS tT tLT tR tLR tC tLC tO : TypeId}
theorem shape_term (h : TermTypes P tI tB tS tT tLT tR tLR tC tLC tO) : ∀ (n : Nat) (r : List C), Shape P n tT r → ∃ t : Term, r = encT t := by
  intro n
  induction n using Nat.strongRecOn with
  | ind n ih =>
    intro r hr
    obtain ⟨fs, hf, hl⟩ := h.t
    obtain ⟨m, rs, rfl, rfl, hs⟩ := shape_struct hf hr
    rw [hl] at hs
    obtain ⟨x, y, z, rfl, h1, h2, h3⟩ := shapeL3 hs
    obtain ⟨op, rfl, _⟩ := shape_int h.i h1
    obtain ⟨k, rfl, _⟩ := shape_int h.i h2
    obtain ⟨m', rows, rfl, rfl, _, h4⟩ := shape_slice h.lt.1 h3
    obtain ⟨l, rfl⟩ := rows_of encT (fun r hr => ih m' (by omega) r hr) rows h4
    exact ⟨.mk op k l, by rw [encT_eq, h.lt.2]; rfl⟩
theorem arg_term (h : TermTypes P tI tB tS tT tLT tR tLR tC tLC tO) {n : Nat} {r : List C} (hr : Shape P n tT r) : ∃ x : Term, argV P tT r = .agg (encT x) := by
  obtain ⟨x, rfl⟩ := shape_term h n r hr
  obtain ⟨fs, hf, _⟩ := h.t
  exact ⟨x, by simp only [argV, hf]⟩
end
end Go.Abs


namespace Go.Abs
section
variable {P : Program}
theorem shape_cell {n : Nat} {t tB tI : TypeId} {fs : Array Field} {r : List C} (ht : P.underlying t = some (.struct fs)) (hf : fs.toList.map (·.type) = [tB, tI]) (hb : P.underlying tB = some .bool) (hi : P.underlying tI = some (.int .i64)) (hr : Shape P n t r) : ∃ c : Cell, r = encCell c := by
  obtain ⟨m, rs, rfl, rfl, hs⟩ := shape_struct ht hr
  rw [hf] at hs
  obtain ⟨x, y, rfl, h1, h2⟩ := shapeL2 hs
  obtain ⟨b, rfl⟩ := shape_bool hb h1
  obtain ⟨k, rfl, _⟩ := shape_int hi h2
  exact ⟨⟨b, k⟩, rfl⟩
theorem arg_cells {n : Nat} {t e tB tI : TypeId} {fs : Array Field} {r : List C} (ht : P.underlying t = some (.slice e)) (he : P.underlying e = some (.struct fs)) (hf : fs.toList.map (·.type) = [tB, tI]) (hb : P.underlying tB = some .bool) (hi : P.underlying tI = some (.int .i64)) (hc : P.cellsOf e = 2)
    (hr : Shape P n t r) : ∃ l : List Cell, argV P t r = lst 2 (l.map encCell) := by
  obtain ⟨m, rows, rfl, rfl, _, h⟩ := shape_slice ht hr
  obtain ⟨l, rfl⟩ := rows_of encCell (fun r hr => shape_cell he hf hb hi hr) rows h
  exact ⟨l, by simp only [argV, ht, hc]⟩
def encB (b : Bool) : List C := [.bool b]
end
end Go.Abs


namespace Go.Abs
def cut (n : Int) : Int := min (max n (-1099511627776)) 1099511627776
theorem cut_eq (n : Int) : cut n = n ↔ -1099511627776 ≤ n ∧ n ≤ 1099511627776 := by unfold cut; omega
def varType (v : Int) : Option Int := if v < 0 ∨ v > 19 then none else if v < 7 then some 0 else some 1
def varTypeV (v : Int) : V := .tup [.int .i64 ((varType v).getD 0), .bool (varType v).isSome]
def leaf (t : Term) : Int × Int :=
  if t.args.length > 0 then (0, 2) else if t.op = 0 then (if cut t.n ≠ t.n then (0, 3) else (0, 0)) else if t.op = 1 then (if t.n < 0 ∨ t.n > 1 then (0, 3) else (1, 0))
  else match varType t.n with | none => (0, 10) | some k => (k, 0)
def pairV (p : Int × Int) : V := .tup [.int .i64 p.1, .int .i64 p.2]
def arity (op : Int) : Int := if op = 0 ∨ op = 1 ∨ op = 2 then 0 else if op = 3 then 1 else if op = 6 then 3 else 2
mutual
def nodes : Term → Int → Int → Int
  | .mk _ _ a, k, lv => if lv < 1 then -1 else nodesL a (k - 1) (lv - 1)
def nodesL : List Term → Int → Int → Int
  | [], k, _ => k
  | t :: l, k, lv => if k < 0 then k else nodesL l (nodes t k lv) lv
end
theorem nodes_eq (t : Term) (k lv : Int) : nodes t k lv = if lv < 1 then -1 else nodesL t.args (k - 1) (lv - 1) := by cases t; simp [nodes, Term.args]
mutual
theorem nodes_bd : ∀ (t : Term) (k lv : Int), 0 ≤ k → -1 ≤ nodes t k lv ∧ nodes t k lv ≤ k
  | .mk _ _ a, k, lv, h => by
    simp only [nodes]
    split
    · omega
    · have := nodesL_bd a (k - 1) (lv - 1) (by omega); omega
theorem nodesL_bd : ∀ (l : List Term) (k lv : Int), -1 ≤ k → -1 ≤ nodesL l k lv ∧ nodesL l k lv ≤ k
  | [], k, lv, h => by simp [nodesL, h]
  | t :: l, k, lv, h => by
    simp only [nodesL]
    split
    · omega
    · have h1 := nodes_bd t k lv (by omega)
      have := nodesL_bd l (nodes t k lv) lv h1.1
      omega
end
theorem nodesL_drop {l : List Term} {i : Nat} (h : i < l.length) (k lv : Int) : nodesL (l.drop i) k lv = if k < 0 then k else nodesL (l.drop (i + 1)) (nodes l[i] k lv) lv := by
  rw [List.drop_eq_getElem_cons h, nodesL]
theorem nodesL_neg (l : List Term) (k lv : Int) (h : k < 0) : nodesL l k lv = k := by
  cases l <;> simp [nodesL, h]
theorem norm_T (t : Term) : C.normRow [C.int .i64 t.op, C.int .i64 t.n, C.list (if (List.map encT t.args).isEmpty = true then 0 else 3) none (List.map encT t.args)] = encT t := by
  have h := encT_norm t
  rw [encT_eq] at h
  exact h.trans (encT_eq t).symm
def measL (m : Term → Int) : List Term → Int → Int
  | [], n => n
  | a :: l, n => if n + m a > 60 then n + m a else measL m l (n + m a)
def meas : Nat → Term → Int
  | 0, _ => 61
  | f + 1, t => measL (meas f) t.args 1
theorem measL_bd {m : Term → Int} {M : Int} (hm : ∀ a, 1 ≤ m a ∧ m a ≤ M) (hM : 1 ≤ M) : ∀ (l : List Term) (n : Int), 1 ≤ n → n ≤ 60 → 1 ≤ measL m l n ∧ measL m l n ≤ 60 + M
  | [], n, h1, h2 => by simp only [measL]; omega
  | a :: l, n, h1, h2 => by
    simp only [measL]
    have := hm a
    split
    · omega
    · exact measL_bd hm hM l _ (by omega) (by omega)
theorem meas_bd : ∀ (f : Nat) (t : Term), 1 ≤ meas f t ∧ meas f t ≤ 61 + 60 * f
  | 0, t => by simp [meas]
  | f + 1, t => by
    have := measL_bd (m := meas f) (M := 61 + 60 * f) (meas_bd f) (by omega) t.args 1 (by omega) (by omega)
    simp only [meas]
    omega
theorem measL_drop {m : Term → Int} {l : List Term} {i : Nat} (h : i < l.length) (n : Int) : measL m (l.drop i) n = if n + m l[i] > 60 then n + m l[i] else measL m (l.drop (i + 1)) (n + m l[i]) := by
  rw [List.drop_eq_getElem_cons h, measL]
def shapeArgs (op : Int) : List Int := if op = 3 then [1] else if op = 4 ∨ op = 5 then [1, 1] else if op = 6 then [1, -1, -1] else if op = 7 then [0, 0] else if op = 8 then [-1, -1] else [0, 0]
def shapeRes (op : Int) : Int := if op = 3 then 1 else if op = 4 ∨ op = 5 then 1 else if op = 6 then -1 else if op = 7 then 1 else if op = 8 then 1 else 0
def shapeV (op : Int) : V := .agk [.newl 3 1 none (ints (shapeArgs op)), .c (.int .i64 (shapeRes op))]
def fit : List Int → List Int → Int → Option Int
  | [], _, c => some c
  | _, [], c => some c
  | w :: ws, ty :: tys, c =>
    let c' := if w = -1 ∧ c = -1 then ty else c
    if ty ≠ (if w = -1 then c' else w) then none else fit ws tys c'
def node (t : Term) (tys : List Int) : Int × Int :=
  if t.op < 0 ∨ t.op > 13 then (0, 1) else if t.op = 0 ∨ t.op = 1 ∨ t.op = 2 then leaf t
  else if tys.length ≠ (shapeArgs t.op).length ∨ t.n ≠ 0 then (0, 2)
  else match fit (shapeArgs t.op) tys (-1) with
    | none => (0, 11)
    | some c => if shapeRes t.op = -1 then (c, 0) else (shapeRes t.op, 0)
mutual
def chk : Term → Int × Int
  | .mk o n a => if (chkA a []).1 ≠ 0 then (0, (chkA a []).1) else node (.mk o n a) (chkA a []).2
def chkA : List Term → List Int → Int × List Int
  | [], ty => (0, ty)
  | t :: l, ty => if (chk t).2 ≠ 0 then ((chk t).2, []) else chkA l (ty ++ [(chk t).1])
end
theorem chk_eq (t : Term) : chk t = if (chkA t.args []).1 ≠ 0 then (0, (chkA t.args []).1) else node t (chkA t.args []).2 := by cases t; simp only [chk, Term.args]; rfl
theorem chkA_drop {l : List Term} {i : Nat} (h : i < l.length) (ty : List Int) : chkA (l.drop i) ty = if (chk l[i]).2 ≠ 0 then ((chk l[i]).2, []) else chkA (l.drop (i + 1)) (ty ++ [(chk l[i]).1]) := by
  rw [List.drop_eq_getElem_cons h, chkA]
def Narrow : Nat → Term → Prop
  | 0, _ => False
  | f + 1, t => t.args.length ≤ 1000 ∧ ∀ a ∈ t.args, Narrow f a
theorem set_at {l : List Int} {n : Nat} {x : Int} {i : Nat} (hl : l.length = i) (h : i < n) :
    (ints l ++ List.replicate (n - i) [C.int .i64 0]).set i [C.int .i64 x] = ints (l ++ [x]) ++ List.replicate (n - (i + 1)) [C.int .i64 0] := by
  obtain ⟨m, hm⟩ : ∃ m, n - i = m + 1 := ⟨n - i - 1, by omega⟩
  have hm2 : n - (i + 1) = m := by omega
  rw [hm, hm2, List.replicate_succ, List.set_append_right _ _ (by simp [ints, hl])]
  simp [ints, hl]
theorem fit_drop {ws tys : List Int} {j : Nat} (h1 : j < ws.length) (h2 : j < tys.length) (c : Int) : fit (ws.drop j) (tys.drop j) c =
    if tys[j] ≠ (if ws[j] = -1 then (if ws[j] = -1 ∧ c = -1 then tys[j] else c) else ws[j]) then none else fit (ws.drop (j + 1)) (tys.drop (j + 1)) (if ws[j] = -1 ∧ c = -1 then tys[j] else c) := by
  rw [List.drop_eq_getElem_cons h1, List.drop_eq_getElem_cons h2, fit]
theorem fit_end (ws tys : List Int) (c : Int) (h : ws = []) : fit ws tys c = some c := by subst h; cases tys <;> rfl
theorem shape_small (op : Int) : (shapeArgs op).length ≤ 3 := by unfold shapeArgs; (repeat' split) <;> simp
end Go.Abs


namespace Go.Abs
theorem Term.ind {P : Term → Prop} (h : ∀ o n a, (∀ x ∈ a, P x) → P (.mk o n a)) : ∀ t, P t := by
  have key : ∀ k, ∀ t : Term, SizeOf.sizeOf t < k → P t := by
    intro k
    induction k with
    | zero => intro t ht; omega
    | succ k ih =>
      rintro ⟨o, n, a⟩ ht
      refine h o n a fun x hx => ih x ?_
      have := List.sizeOf_lt_of_mem hx
      simp at ht
      omega
  exact fun t => key _ t (Nat.lt_succ_self _)
def checkT (t : Term) : Int × Int := if nodes t 60 8 < 0 then (0, 6) else chk t
def few (t : Term) : Bool := decide (nodes t 100 20 ≥ 0)
theorem measL_ge {m : Term → Int} (hm : ∀ a, 1 ≤ m a) : ∀ (l : List Term) (n : Int), n ≤ measL m l n
  | [], n => by simp [measL]
  | b :: l, n => by
    have := hm b
    have := measL_ge hm l (n + m b)
    simp only [measL]; split <;> omega
theorem meas_nodes : ∀ (f : Nat),
    (∀ (t : Term) (c : Int), 0 ≤ c → c < 60 → (nodes t (60 - c) f < 0 ↔ c + meas f t > 60) ∧ (0 ≤ nodes t (60 - c) f → nodes t (60 - c) f = 60 - c - meas f t)) ∧
    (∀ (l : List Term) (c n : Int), 0 ≤ c → 1 ≤ n → c + n ≤ 60 → (nodesL l (60 - c - n) f < 0 ↔ c + measL (meas f) l n > 60) ∧ (0 ≤ nodesL l (60 - c - n) f → nodesL l (60 - c - n) f = 60 - c - measL (meas f) l n)) := by
  intro f
  induction f with
  | zero =>
    have h1 : ∀ (t : Term) (c : Int), 0 ≤ c → c < 60 → (nodes t (60 - c) ((0 : Nat) : Int) < 0 ↔ c + meas 0 t > 60) ∧ (0 ≤ nodes t (60 - c) ((0 : Nat) : Int) → nodes t (60 - c) ((0 : Nat) : Int) = 60 - c - meas 0 t) := by
      intro t c hc h60
      rw [nodes_eq, if_pos (by omega)]
      simp only [meas]
      omega
    refine ⟨h1, fun l => ?_⟩
    cases l with
    | nil =>
      intro c n hc hn h
      show (60 - c - n < 0 ↔ c + n > 60) ∧ (0 ≤ 60 - c - n → 60 - c - n = 60 - c - n)
      exact ⟨by omega, fun _ => rfl⟩
    | cons a l =>
      intro c n hc hn h
      have e1 : nodes a (60 - c - n) ((0 : Nat) : Int) = -1 := by rw [nodes_eq, if_pos (by omega)]
      have h0 : ¬ (60 - c - n < 0) := by omega
      have h6 : n + 61 > 60 := by omega
      simp only [nodesL, measL, meas, e1, if_neg h0, if_pos h6]
      rw [nodesL_neg _ _ _ (by omega)]
      omega
  | succ f ih =>
    have h1 : ∀ (t : Term) (c : Int), 0 ≤ c → c < 60 → (nodes t (60 - c) ((f + 1 : Nat) : Int) < 0 ↔ c + meas (f + 1) t > 60) ∧ (0 ≤ nodes t (60 - c) ((f + 1 : Nat) : Int) → nodes t (60 - c) ((f + 1 : Nat) : Int) = 60 - c - meas (f + 1) t) := by
      intro t c hc h60
      rw [nodes_eq, if_neg (by omega)]
      have := ih.2 t.args c 1 hc (by omega) (by omega)
      have e : ((f + 1 : Nat) : Int) - 1 = (f : Nat) := by omega
      rw [e]
      simp only [meas]
      exact this
    refine ⟨h1, fun l => ?_⟩
    induction l with
    | nil =>
      intro c n hc hn h
      show (60 - c - n < 0 ↔ c + n > 60) ∧ (0 ≤ 60 - c - n → 60 - c - n = 60 - c - n)
      exact ⟨by omega, fun _ => rfl⟩
    | cons a l ihl =>
      intro c n hc hn h
      simp only [nodesL, measL]
      rw [if_neg (by omega)]
      have hm := (meas_bd (f + 1) a).1
      by_cases hb : c + n = 60
      · have e0 : 60 - c - n = 0 := by omega
        have hn : nodes a (60 - c - n) ((f + 1 : Nat) : Int) < 0 := by
          have := (nodes_bd a (60 - c - n) ((f + 1 : Nat) : Int) (by omega))
          rw [nodes_eq, if_neg (by omega), nodesL_neg _ _ _ (by omega)]; omega
        rw [nodesL_neg _ _ _ hn]
        split
        · have := (nodes_bd a (60 - c - n) ((f + 1 : Nat) : Int) (by omega)).1; omega
        · have := measL_ge (m := meas (f + 1)) (fun a => (meas_bd (f + 1) a).1) l (n + meas (f + 1) a)
          have := (nodes_bd a (60 - c - n) ((f + 1 : Nat) : Int) (by omega)).1
          omega
      · obtain ⟨g1, g2⟩ := h1 a (c + n) (by omega) (by omega)
        have e1 : 60 - (c + n) = 60 - c - n := by omega
        rw [e1] at g1 g2
        by_cases hneg : nodes a (60 - c - n) ((f + 1 : Nat) : Int) < 0
        · rw [nodesL_neg _ _ _ hneg]
          have := g1.1 hneg
          split
          · omega
          · have := measL_ge (m := meas (f + 1)) (fun a => (meas_bd (f + 1) a).1) l (n + meas (f + 1) a)
            omega
        · have e2 := g2 (by omega)
          rw [e2]
          have hnb : ¬ (c + n + meas (f + 1) a > 60) := fun h => hneg (g1.2 h)
          rw [if_neg (by omega)]
          have := ihl c (n + meas (f + 1) a) hc (by omega) (by omega)
          have e3 : 60 - c - (n + meas (f + 1) a) = 60 - (c + n) - meas (f + 1) a := by omega
          rw [e3] at this
          have e4 : 60 - c - n - meas (f + 1) a = 60 - (c + n) - meas (f + 1) a := by omega
          rw [e4]; exact this
theorem meas_check (t : Term) : meas 8 t > 60 ↔ nodes t 60 8 < 0 := by
  have := ((meas_nodes 8).1 t 0 (by omega) (by omega)).1
  simp only [Int.sub_zero, Int.zero_add] at this
  exact this.symm
theorem nodesL_len : ∀ (l : List Term) (k lv : Int), 0 ≤ nodesL l k lv → (l.length : Int) ≤ k
  | [], k, lv, h => by simpa [nodesL] using h
  | t :: l, k, lv, h => by
    simp only [nodesL] at h
    split at h
    · omega
    · have h1 := nodesL_len l _ lv h
      have h2 : nodes t k lv ≤ k - 1 := by
        rw [nodes_eq]
        split
        · omega
        · have := (nodesL_bd t.args (k - 1) (lv - 1) (by omega)).2; omega
      simp only [List.length_cons]
      omega
theorem nodesL_mem : ∀ (l : List Term) (k lv : Int), 0 ≤ nodesL l k lv → ∀ a ∈ l, ∃ k', k' ≤ k ∧ 0 ≤ nodes a k' lv
  | [], _, _, _, a, h => by simp at h
  | t :: l, k, lv, h, a, ha => by
    simp only [nodesL] at h
    split at h
    · omega
    · rcases List.mem_cons.1 ha with rfl | ha
      · refine ⟨k, Int.le_refl _, ?_⟩
        by_cases hn : nodes a k lv < 0
        · rw [nodesL_neg _ _ _ hn] at h; omega
        · omega
      · obtain ⟨k', h1, h2⟩ := nodesL_mem l _ lv h a ha
        have := (nodes_bd t k lv (by omega)).2
        exact ⟨k', by omega, h2⟩
theorem narrow_of : ∀ (f : Nat) (t : Term) (k : Int), k ≤ 1000 → 0 ≤ nodes t k f → Narrow f t
  | 0, t, k, _, h => by rw [nodes_eq] at h; simp at h
  | f + 1, t, k, hk, h => by
    rw [nodes_eq, if_neg (by omega)] at h
    have e : ((f + 1 : Nat) : Int) - 1 = (f : Nat) := by omega
    rw [e] at h
    have := nodesL_len _ _ _ h
    refine ⟨by omega, fun a ha => ?_⟩
    obtain ⟨k', h1, h2⟩ := nodesL_mem _ _ _ h a ha
    exact narrow_of f a k' (by omega) h2
mutual
def used : Term → Int → Bool
  | .mk o n a, v => if o = 2 then decide (n = v) else usedL a v
def usedL : List Term → Int → Bool
  | [], _ => false
  | t :: l, v => if used t v = true then true else usedL l v
end
theorem used_eq (t : Term) (v : Int) : used t v = if t.op = 2 then decide (t.n = v) else usedL t.args v := by cases t; simp only [used, Term.op, Term.n, Term.args]; rfl
mutual
def coll : Term → List Int → List Int
  | .mk o n a, acc => collL a (if o = 2 then acc ++ [n] else acc)
def collL : List Term → List Int → List Int
  | [], acc => acc
  | t :: l, acc => collL l (coll t acc)
end
theorem coll_eq (t : Term) (acc : List Int) : coll t acc = collL t.args (if t.op = 2 then acc ++ [t.n] else acc) := by cases t; simp only [coll, Term.op, Term.n, Term.args]; rfl
theorem collL_drop {l : List Term} {i : Nat} (h : i < l.length) (acc : List Int) : collL (l.drop i) acc = collL (l.drop (i + 1)) (coll l[i] acc) := by
  rw [List.drop_eq_getElem_cons h, collL]
def upto (n : Nat) : List Int := (List.range n).map fun (i : Nat) => (i : Int)
def varsT (t : Term) : List Int := if (checkT t).2 ≠ 0 then [] else (upto 20).filter (used t)
def valueC (v : Int) (cells : List Cell) : Cell :=
  if v < 0 ∨ v ≥ cells.length then ⟨false, 0⟩
  else if (cells.getD v.toNat ⟨false, 0⟩).known = false then ⟨false, 0⟩
  else if (varType v).getD 0 = 0 then ⟨true, cut (cells.getD v.toNat ⟨false, 0⟩).n⟩
  else if (cells.getD v.toNat ⟨false, 0⟩).n ≠ 0 then ⟨true, 1⟩ else ⟨true, 0⟩
def yes (b : Bool) : Cell := if b then ⟨true, 1⟩ else ⟨true, 0⟩
def logic (a b : Cell) (alone : Int) : Cell :=
  if a.known = true ∧ a.n = alone ∨ b.known = true ∧ b.n = alone then ⟨true, alone⟩
  else if a.known = true ∧ b.known = true then ⟨true, 1 - alone⟩ else ⟨false, 0⟩
def times (a b : Int) : Int := cut (a * b)
def number (op a b : Int) : Cell :=
  if op = 7 then yes (decide (a < b)) else if op = 8 then yes (decide (a = b)) else if op = 9 then ⟨true, cut (a + b)⟩ else if op = 10 then ⟨true, cut (a - b)⟩
  else if op = 11 then ⟨true, times a b⟩ else if op = 12 then ⟨true, min a b⟩ else ⟨true, max a b⟩
def evalN (op : Int) (l : List Cell) : Cell :=
  if op = 3 then (if (l.getD 0 ⟨false, 0⟩).known = false then ⟨false, 0⟩ else ⟨true, 1 - (l.getD 0 ⟨false, 0⟩).n⟩)
  else if op = 4 then logic (l.getD 0 ⟨false, 0⟩) (l.getD 1 ⟨false, 0⟩) 0
  else if op = 5 then logic (l.getD 0 ⟨false, 0⟩) (l.getD 1 ⟨false, 0⟩) 1
  else if op = 6 then
    (if (l.getD 0 ⟨false, 0⟩).known = true then l.getD (2 - (l.getD 0 ⟨false, 0⟩).n).toNat ⟨false, 0⟩
     else if (l.getD 1 ⟨false, 0⟩).known = true ∧ (l.getD 2 ⟨false, 0⟩).known = true ∧ (l.getD 1 ⟨false, 0⟩).n = (l.getD 2 ⟨false, 0⟩).n then l.getD 1 ⟨false, 0⟩ else ⟨false, 0⟩)
  else if (l.getD 0 ⟨false, 0⟩).known = false ∨ (l.getD 1 ⟨false, 0⟩).known = false then ⟨false, 0⟩
  else number op (l.getD 0 ⟨false, 0⟩).n (l.getD 1 ⟨false, 0⟩).n
mutual
def eval : Term → List Cell → Cell
  | .mk o n a, cells => if o = 0 ∨ o = 1 then ⟨true, n⟩ else if o = 2 then valueC n cells else evalN o (evalL a cells)
def evalL : List Term → List Cell → List Cell
  | [], _ => []
  | t :: l, cells => eval t cells :: evalL l cells
end
theorem evalL_map (cells : List Cell) : ∀ l, evalL l cells = l.map fun t => eval t cells
  | [] => rfl
  | t :: l => by simp [evalL, evalL_map cells l]
theorem eval_eq (t : Term) (cells : List Cell) : eval t cells = if t.op = 0 ∨ t.op = 1 then ⟨true, t.n⟩ else if t.op = 2 then valueC t.n cells else evalN t.op (t.args.map fun a => eval a cells) := by
  cases t; simp only [eval, evalL_map, Term.op, Term.n, Term.args]; rfl
def evalT (t : Term) (cells : List Cell) : Cell := if (checkT t).2 ≠ 0 then ⟨false, 0⟩ else eval t cells
end Go.Abs


set_option maxRecDepth 100000
namespace Go.Abs
open Go.Proofs
theorem s93 (a : Int) : Spec Try.prog 93 [.int .i64 a] (fun r => r = .int .i64 (cut a)) := by
  refine Spec.of_awl hf93 okf93 (by simp) ?_
  simp only [q_wpLs_eq_1, q_wpLs_eq_2, q_wpL_eq_1, q_exL_eq_1, q_exL_eq_34, q_look_eq_1, q_look_eq_2, q_lookO_eq_1, q_insT_eq_1, q_awl_eq_2, q_awl_eq_5, q_awl_eq_10, q_AE_thenL_eq_1, q_initT_eq_1, q_initT_eq_2, q_putK_eq_1, q_vInts_eq_1, q_vInts_eq_2, q_foldV_eq_1, q_vMinmax_eq_1, q_minmaxI_eq_1, q_mapT_eq_1, q_mapT_eq_2, q_mapO_eq_1, q_endK_eq_2, q_endL_eq_1, q_endV_eq_1, q_resL_eq_1, q_resL_eq_2, q_resX_eq_1, q_one_eq_1, q_V_nrm_eq_1, q_K_nrm_eq_1, q_V_owns_eq_1, q_K_owns_eq_2, q_V_toNew_eq_1, q_K_toNew_eq_1, q_C_norm_eq_4, q_Option_map_some, q_List_map_cons, q_List_map_nil, q_List_foldl_cons, q_List_foldl_nil, true_and, if_true, if_false, Bool.false_eq_true, and_self, Int.reduceNeg, List.nodup_nil, Nat.reduceBEq, Nat.zero_add, lookT_here, lookT_next, uf93, uf93r1, uf93b2, uf93r3, uf93b4]
  congr 3
  unfold cut
  split <;> split <;> omega
theorem s33 (a : Int) : Spec Try.prog 33 [.int .i64 a] (fun r => r = varTypeV a) := by
  refine Spec.of_awl hf33 okf33 (by simp) ?_
  simp only [q_wpLs_eq_1, q_wpLs_eq_2, q_wpL_eq_1, q_putDL_eq_1, q_AOp_dst_eq_1, q_AOp_dst_eq_10, q_exL_eq_1, q_exL_eq_3, q_exL_eq_11, q_look_eq_1, q_look_eq_2, q_lookO_eq_1, q_insT_eq_1, q_awl_eq_1, q_awl_eq_2, q_awl_eq_5, q_awl_eq_6, q_awl_eq_7, q_awl_eq_10, q_AE_thenL_eq_1, q_AE_thenL_eq_3, q_AE_inBlockL_eq_1, q_AE_inBlockL_eq_3, q_initT_eq_1, q_initT_eq_2, q_putK_eq_1, q_vBin_eq_1, q_resV_eq_1, q_binV_eq_1, q_binInt_eq_3, q_cutInt_eq_8, q_cutInt_eq_10, q_vPick_eq_1, q_vPick_eq_2, q_mapT_eq_1, q_mapT_eq_2, q_mapO_eq_1, q_endK_eq_2, q_endL_eq_1, q_endV_eq_1, q_resL_eq_1, q_resL_eq_2, q_resX_eq_1, q_one_eq_2, q_V_nrm_eq_1, q_V_nrm_eq_5, q_K_nrm_eq_1, q_V_owns_eq_1, q_V_owns_eq_3, q_K_owns_eq_2, q_V_ownsL_eq_1, q_V_ownsL_eq_2, q_V_toNew_eq_1, q_V_toNew_eq_4, q_K_toNew_eq_1, q_V_toNewL_eq_1, q_V_toNewL_eq_2, q_C_norm_eq_4, q_C_norm_eq_5, q_Bool_not_false, true_and, if_true, if_false, Bool.false_eq_true, and_self, List.append_nil, List.nodup_nil, Nat.reduceBEq, Nat.zero_add, q_learn_eq_1, q_guardP_eq_2, q_condK_eq_1, q_condB_eq_1, q_condB_eq_2, q_exK_eq_1, condB_decide, lookT_here, lookT_next, uf33, uf33r1, uf33b2, uf33r3, uf33b4, uf33r5, uf33b6, uf33b7, uf33r8, uf33b9, uf33b10, uf33r11, uf33b12, uf33b13, uf33b14, uf33r15, uf33b16]
  repeat' (first | with_reducible refine And.intro ?_ ?_ | with_reducible intro _)
  all_goals (simp only [varTypeV, varType]; (repeat' split) <;> simp_all <;> omega)
theorem s71 (t : Term) : Spec Try.prog 71 [.agg (encT t)] (fun r => r = pairV (leaf t)) := by
  refine Spec.of_awl hf71 okf71 (by simp) ?_
  simp only [encT_eq, lstC, map_len, q_wpLs_eq_1, q_wpLs_eq_2, q_wpLQs_eq_2, q_wpL_eq_1, q_wpLQ_eq_1, q_putDL_eq_1, q_AOp_dst_eq_8, q_AOp_dst_eq_10, q_AOp_dst_eq_20, q_exL_eq_1, q_exL_eq_3, q_exL_eq_5, q_exL_eq_8, q_exL_eq_11, q_exL_eq_21, q_exL_eq_28, q_exL_eq_30, q_exLQ_eq_9, q_exLQ_eq_22, q_exLQ_eq_29, q_look_eq_1, q_look_eq_2, q_insT_eq_1, q_insO_eq_1, q_awl_eq_1, q_awl_eq_2, q_awl_eq_3, q_awl_eq_5, q_awl_eq_6, q_awl_eq_7, q_awl_eq_10, q_AE_thenL_eq_1, q_AE_thenL_eq_3, q_AE_inBlockL_eq_1, q_AE_inBlockL_eq_3, q_initT_eq_1, q_initT_eq_2, q_putK_eq_1, q_vBin_eq_1, q_resV_eq_1, q_binV_eq_1, q_binInt_eq_3, q_cutInt_eq_6, q_cutInt_eq_8, q_cutInt_eq_10, q_vLen_eq_1, q_vFaddr_eq_1, q_loadO_eq_1, q_isV_eq_1, q_vLoad_eq_1, q_vPick_eq_1, q_vPick_eq_2, q_ofRow_eq_1, q_pureRow_eq_1, q_pureRow_eq_2, q_isVarO_eq_1, q_boxK_eq_1, q_mapT_eq_1, q_mapT_eq_2, q_mapO_eq_1, q_mapO_eq_2, q_freeB_eq_1, q_freeT_eq_1, q_freeT_eq_2, q_freeO_eq_1, q_V_noRef_eq_2, q_endK_eq_2, q_endL_eq_1, q_endV_eq_1, q_resL_eq_1, q_resL_eq_2, q_resX_eq_1, q_one_eq_2, q_V_nrm_eq_1, q_V_nrm_eq_2, q_V_nrm_eq_5, q_K_nrm_eq_1, q_K_nrm_eq_3, q_O_nrm_eq_1, q_V_owns_eq_1, q_V_owns_eq_3, q_K_owns_eq_2, q_V_ownsL_eq_1, q_V_ownsL_eq_2, q_V_toNew_eq_1, q_V_toNew_eq_4, q_K_toNew_eq_1, q_V_toNewL_eq_1, q_V_toNewL_eq_2, q_C_norm_eq_1, q_C_norm_eq_4, q_C_norm_eq_5, q_C_normRow_eq_1, q_C_normRow_eq_2, q_Bool_not_false, q_Option_map_some, q_List_map_cons, q_List_map_nil, q_List_take_succ_cons, q_List_take_zero, q_List_drop_succ_cons, q_List_drop_zero, q_List_length_cons, q_List_length_nil, true_and, if_true, if_false, Bool.false_eq_true, and_self, Bool.and_true, Bool.or_true, List.append_nil, List.nodup_nil, Nat.reduceAdd, Nat.reduceLeDiff, Nat.reduceBEq, Nat.zero_add, Nat.add_zero, Nat.le_refl, q_learn_eq_1, q_guardP_eq_2, q_condK_eq_1, q_condB_eq_1, q_condB_eq_2, q_exK_eq_1, condB_decide, condB_beq, normRows_T, List.length_map, lookT_here, lookT_next, lookO_here, uf71, uf71r9, uf71b10, uf71r16, uf71b17, uf71b18, uf71r19, uf71b20, uf71r21, uf71b22, uf71b23, uf71r24, uf71b25, uf71b26, uf71b27, uf71r28, uf71b29, uf71b30, uf71r31, uf71b32, uf71b33, uf71r34, uf71b35, uf71b36, uf71r37, uf71b38, uf71b39, uf71r40, uf71b41, uf71b42, uf71r43, uf71b44]
  repeat' (first | with_reducible refine And.intro ?_ ?_ | with_reducible intro _)
  all_goals first
    | (refine callQ_scalar (s93 t.n) rfl rfl rfl ?_
       simp only [q_wpLs_eq_1, q_wpLs_eq_2, q_wpLQs_eq_1, q_wpLQs_eq_2, q_wpL_eq_1, q_wpLQ_eq_1, q_exL_eq_1, q_exLQ_eq_9, q_exLQ_eq_12, q_exLQ_eq_22, q_look_eq_1, q_look_eq_2, q_insT_eq_1, q_awl_eq_1, q_awl_eq_2, q_awl_eq_5, q_awl_eq_6, q_awl_eq_10, q_AE_thenL_eq_1, q_AE_thenL_eq_3, q_AE_inBlockL_eq_3, q_putK_eq_1, q_vBin_eq_1, q_resV_eq_1, q_binV_eq_1, q_binInt_eq_3, q_cutInt_eq_7, q_vFaddr_eq_1, q_loadO_eq_1, q_isV_eq_1, q_vLoad_eq_1, q_ofRow_eq_1, q_pureRow_eq_1, q_pureRow_eq_2, q_isVarO_eq_1, q_mapT_eq_1, q_mapT_eq_2, q_mapO_eq_1, q_mapO_eq_2, q_endK_eq_2, q_endL_eq_1, q_endV_eq_1, q_resL_eq_1, q_resL_eq_2, q_resX_eq_1, q_one_eq_2, q_V_nrm_eq_1, q_V_nrm_eq_2, q_K_nrm_eq_1, q_K_nrm_eq_3, q_O_nrm_eq_1, q_V_owns_eq_1, q_V_owns_eq_3, q_K_owns_eq_2, q_V_ownsL_eq_1, q_V_ownsL_eq_2, q_V_toNew_eq_1, q_V_toNew_eq_4, q_K_toNew_eq_1, q_V_toNewL_eq_1, q_V_toNewL_eq_2, q_C_norm_eq_1, q_C_norm_eq_4, q_C_norm_eq_5, q_C_normRow_eq_1, q_C_normRow_eq_2, q_V_fz_eq_1, q_K_fz_eq_2, q_Option_map_some, q_List_map_cons, q_List_map_nil, q_List_take_succ_cons, q_List_take_zero, q_List_drop_succ_cons, q_List_drop_zero, q_List_length_cons, q_List_length_nil, true_and, if_true, if_false, Bool.false_eq_true, and_self, List.append_nil, List.nodup_nil, Nat.reduceAdd, Nat.reduceLeDiff, Nat.reduceBEq, Nat.zero_add, q_learn_eq_1, q_condK_eq_1, condB_bne, normRows_T, lookT_here, lookT_next, lookO_here, uf71r11, uf71b12, uf71r13, uf71b14, uf71b15]
       repeat' (first | with_reducible refine And.intro ?_ ?_ | with_reducible intro _)
       all_goals simp_all [leaf, pairV]
       done)
    | (refine call_scalar (s33 t.n) rfl rfl rfl ?_
       simp only [varTypeV, condB_iff, q_wpLs_eq_1, q_wpLs_eq_2, q_wpL_eq_1, q_exL_eq_1, q_exL_eq_15, q_exL_eq_27, q_look_eq_1, q_look_eq_2, q_insT_eq_1, q_awl_eq_1, q_awl_eq_2, q_awl_eq_5, q_awl_eq_6, q_awl_eq_10, q_AE_thenL_eq_1, q_AE_thenL_eq_3, q_putK_eq_1, q_vUn_eq_1, q_unV_eq_2, q_mapC_eq_1, q_vExtr_eq_1, q_mapT_eq_1, q_mapT_eq_2, q_mapO_eq_1, q_mapO_eq_2, q_endK_eq_2, q_endL_eq_1, q_endV_eq_1, q_resL_eq_1, q_resL_eq_2, q_resX_eq_1, q_one_eq_2, q_V_nrm_eq_1, q_V_nrm_eq_2, q_V_nrm_eq_4, q_K_nrm_eq_1, q_K_nrm_eq_3, q_V_nrmL_eq_1, q_V_nrmL_eq_2, q_O_nrm_eq_1, q_V_owns_eq_1, q_V_owns_eq_3, q_K_owns_eq_2, q_V_ownsL_eq_1, q_V_ownsL_eq_2, q_V_toNew_eq_1, q_V_toNew_eq_4, q_K_toNew_eq_1, q_V_toNewL_eq_1, q_V_toNewL_eq_2, q_C_norm_eq_1, q_C_norm_eq_4, q_C_norm_eq_5, q_C_normRow_eq_1, q_C_normRow_eq_2, q_List_map_cons, q_List_map_nil, q_List_getElemQ_cons_zero, q_List_getElemQ_cons_succ, true_and, and_self, Bool.not_eq_true', Bool.not_eq_false', List.append_nil, List.nodup_nil, Nat.reduceBEq, q_learn_eq_1, q_condK_eq_1, normRows_T, lookT_here, lookT_next, uf71r1, uf71b2, uf71r3, uf71b4, uf71b5, uf71r6, uf71b7, uf71b8]
       cases hv : varType t.n <;> simp_all [leaf, pairV]
       done)
    | (simp_all [leaf, pairV]; done)
    | (simp_all [leaf, pairV]; rw [if_neg (by omega)]; simp; done)
    | (simp_all [leaf, pairV]; rw [if_pos (by omega)]; simp; done)
theorem s34 (a : Int) : Spec Try.prog 34 [.int .i64 a] (fun r => r = varTypeV a) := by
  refine Spec.of_awl hf34 okf34 (by simp) ?_
  simp only [q_wpLs_eq_1, q_wpLs_eq_2, q_wpL_eq_1, q_putDL_eq_1, q_AOp_dst_eq_1, q_AOp_dst_eq_10, q_exL_eq_1, q_exL_eq_3, q_exL_eq_11, q_look_eq_1, q_look_eq_2, q_lookO_eq_1, q_insT_eq_1, q_awl_eq_1, q_awl_eq_2, q_awl_eq_5, q_awl_eq_6, q_awl_eq_10, q_AE_thenL_eq_1, q_AE_thenL_eq_3, q_initT_eq_1, q_initT_eq_2, q_putK_eq_1, q_vBin_eq_1, q_resV_eq_1, q_binV_eq_1, q_binInt_eq_3, q_cutInt_eq_8, q_cutInt_eq_9, q_cutInt_eq_11, q_vPick_eq_1, q_vPick_eq_2, q_mapT_eq_1, q_mapT_eq_2, q_mapO_eq_1, q_endK_eq_2, q_endL_eq_1, q_endV_eq_1, q_resL_eq_1, q_resL_eq_2, q_resX_eq_1, q_one_eq_2, q_V_nrm_eq_1, q_V_nrm_eq_5, q_K_nrm_eq_1, q_V_owns_eq_1, q_V_owns_eq_3, q_K_owns_eq_2, q_V_ownsL_eq_1, q_V_ownsL_eq_2, q_V_toNew_eq_1, q_V_toNew_eq_4, q_K_toNew_eq_1, q_V_toNewL_eq_1, q_V_toNewL_eq_2, q_C_norm_eq_4, q_C_norm_eq_5, q_Bool_not_false, true_and, if_true, if_false, Bool.false_eq_true, and_self, List.append_nil, List.nodup_nil, Nat.reduceBEq, Nat.zero_add, q_learn_eq_1, q_guardP_eq_2, q_condK_eq_1, q_condB_eq_1, q_condB_eq_2, q_exK_eq_1, condB_decide, lookT_here, lookT_next, uf34, uf34r1, uf34b2, uf34r3, uf34b4, uf34b5, uf34r6, uf34b7, uf34b8, uf34r9, uf34b10, uf34b11, uf34r12, uf34b13, uf34b14, uf34r15, uf34b16]
  repeat' (first | with_reducible refine And.intro ?_ ?_ | with_reducible intro _)
  all_goals (simp only [varTypeV, varType]; (repeat' split) <;> simp_all <;> omega)
theorem s73 (a : Int) : Spec Try.prog 73 [.int .i64 a] (fun r => r = .int .i64 (arity a)) := by
  refine Spec.of_awl hf73 okf73 (by simp) ?_
  simp only [q_wpLs_eq_1, q_wpLs_eq_2, q_wpL_eq_1, q_exL_eq_1, q_exL_eq_11, q_look_eq_1, q_look_eq_2, q_lookO_eq_1, q_insT_eq_1, q_awl_eq_1, q_awl_eq_2, q_awl_eq_5, q_awl_eq_6, q_awl_eq_7, q_awl_eq_10, q_AE_thenL_eq_1, q_AE_thenL_eq_3, q_AE_inBlockL_eq_1, q_AE_inBlockL_eq_3, q_initT_eq_1, q_initT_eq_2, q_putK_eq_1, q_vBin_eq_1, q_resV_eq_1, q_binV_eq_1, q_binInt_eq_3, q_cutInt_eq_6, q_mapT_eq_1, q_mapT_eq_2, q_mapO_eq_1, q_endK_eq_2, q_endL_eq_1, q_endV_eq_1, q_resL_eq_1, q_resL_eq_2, q_resX_eq_1, q_one_eq_1, q_V_nrm_eq_1, q_K_nrm_eq_1, q_V_owns_eq_1, q_K_owns_eq_2, q_V_toNew_eq_1, q_K_toNew_eq_1, q_C_norm_eq_4, q_C_norm_eq_5, true_and, if_true, and_self, List.nodup_nil, Nat.reduceBEq, Nat.zero_add, q_learn_eq_1, q_condK_eq_1, q_condB_eq_1, condB_beq, lookT_here, lookT_next, uf73, uf73r1, uf73b2, uf73r3, uf73b4, uf73r5, uf73b6, uf73r7, uf73b8, uf73b9, uf73r10, uf73b11, uf73b12, uf73r13, uf73b14, uf73b15, uf73r16, uf73b17, uf73r18, uf73b19, uf73b20, uf73r21, uf73b22, uf73b23, uf73b24, uf73r25, uf73b26, uf73b27, uf73r28, uf73b29]
  repeat' (first | with_reducible refine And.intro ?_ ?_ | with_reducible intro _)
  all_goals (simp only [arity]; (repeat' split) <;> simp_all)
theorem s74 (t : Term) (h0 : t.args = []) (h1 : 0 ≤ t.op) (h2 : t.op ≤ 2) : Spec Try.prog 74 [.agg (encT t)] (fun r => r = pairV (leaf t)) := by
  refine Spec.of_awl hf74 okf74 (by simp) ?_
  simp only [encT_eq, lstC, map_len, q_wpLs_eq_1, q_wpLs_eq_2, q_wpL_eq_1, q_putDL_eq_1, q_AOp_dst_eq_8, q_AOp_dst_eq_10, q_AOp_dst_eq_20, q_exL_eq_1, q_exL_eq_3, q_exL_eq_5, q_exL_eq_8, q_exL_eq_11, q_exL_eq_21, q_exL_eq_28, q_look_eq_1, q_look_eq_2, q_insT_eq_1, q_insO_eq_1, q_awl_eq_1, q_awl_eq_2, q_awl_eq_5, q_awl_eq_6, q_awl_eq_10, q_AE_thenL_eq_1, q_AE_thenL_eq_3, q_initT_eq_1, q_initT_eq_2, q_putK_eq_1, q_vBin_eq_1, q_resV_eq_1, q_binV_eq_1, q_binInt_eq_3, q_cutInt_eq_6, q_cutInt_eq_7, q_cutInt_eq_8, q_cutInt_eq_10, q_vFaddr_eq_1, q_loadO_eq_1, q_isV_eq_1, q_vLoad_eq_1, q_vPick_eq_1, q_vPick_eq_2, q_vPick_eq_3, q_ofRow_eq_1, q_pureRow_eq_1, q_pureRow_eq_2, q_isVarO_eq_1, q_boxK_eq_1, q_mapT_eq_1, q_mapT_eq_2, q_mapO_eq_1, q_mapO_eq_2, q_freeB_eq_1, q_freeT_eq_1, q_freeT_eq_2, q_freeO_eq_1, q_V_noRef_eq_2, q_endK_eq_2, q_endL_eq_1, q_endV_eq_1, q_resL_eq_1, q_resL_eq_2, q_resX_eq_1, q_one_eq_2, q_V_nrm_eq_1, q_V_nrm_eq_2, q_V_nrm_eq_5, q_K_nrm_eq_1, q_K_nrm_eq_3, q_O_nrm_eq_1, q_V_owns_eq_1, q_V_owns_eq_3, q_K_owns_eq_2, q_V_ownsL_eq_1, q_V_ownsL_eq_2, q_V_toNew_eq_1, q_V_toNew_eq_4, q_K_toNew_eq_1, q_V_toNewL_eq_1, q_V_toNewL_eq_2, q_C_norm_eq_1, q_C_norm_eq_4, q_C_norm_eq_5, q_C_normRow_eq_1, q_C_normRow_eq_2, q_Bool_not_true, q_Bool_not_false, q_Option_map_some, q_List_map_cons, q_List_map_nil, q_List_take_succ_cons, q_List_take_zero, q_List_drop_succ_cons, q_List_drop_zero, q_List_length_cons, q_List_length_nil, true_and, if_true, if_false, Bool.false_eq_true, and_self, Bool.and_true, Bool.or_true, Int.reduceNeg, List.append_nil, List.nodup_nil, Nat.reduceAdd, Nat.reduceLeDiff, Nat.reduceBEq, Nat.zero_add, Nat.add_zero, q_learn_eq_1, q_guardP_eq_1, q_guardP_eq_2, q_condK_eq_1, q_condB_eq_1, q_condB_eq_2, q_exK_eq_1, condB_decide, condB_beq, condB_bne, normRows_T, lookT_here, lookT_next, lookO_here, uf74, uf74r9, uf74b10, uf74r11, uf74b12, uf74r13, uf74b14, uf74b15, uf74r16, uf74b17, uf74b18, uf74b19, uf74r20, uf74b21, uf74b22, uf74r23, uf74b24, uf74r25, uf74b26, uf74b27, uf74r28, uf74b29, uf74b30, uf74b31, uf74r32, uf74b33, uf74b34, uf74r35, uf74b36]
  repeat' (first | with_reducible refine And.intro ?_ ?_ | with_reducible intro _)
  all_goals first
    | (refine call_scalar (s34 t.n) rfl rfl rfl ?_
       simp only [varTypeV, condB_iff, q_wpLs_eq_1, q_wpLs_eq_2, q_wpL_eq_1, q_exL_eq_1, q_exL_eq_15, q_exL_eq_27, q_look_eq_1, q_look_eq_2, q_insT_eq_1, q_awl_eq_1, q_awl_eq_2, q_awl_eq_5, q_awl_eq_6, q_awl_eq_10, q_AE_thenL_eq_1, q_AE_thenL_eq_3, q_putK_eq_1, q_vUn_eq_1, q_unV_eq_2, q_mapC_eq_1, q_vExtr_eq_1, q_mapT_eq_1, q_mapT_eq_2, q_mapO_eq_1, q_mapO_eq_2, q_endK_eq_2, q_endL_eq_1, q_endV_eq_1, q_resL_eq_1, q_resL_eq_2, q_resX_eq_1, q_one_eq_2, q_V_nrm_eq_1, q_V_nrm_eq_2, q_V_nrm_eq_4, q_K_nrm_eq_1, q_K_nrm_eq_3, q_V_nrmL_eq_1, q_V_nrmL_eq_2, q_O_nrm_eq_1, q_V_owns_eq_1, q_V_owns_eq_3, q_K_owns_eq_2, q_V_ownsL_eq_1, q_V_ownsL_eq_2, q_V_toNew_eq_1, q_V_toNew_eq_4, q_K_toNew_eq_1, q_V_toNewL_eq_1, q_V_toNewL_eq_2, q_C_norm_eq_1, q_C_norm_eq_4, q_C_norm_eq_5, q_C_normRow_eq_1, q_C_normRow_eq_2, q_List_map_cons, q_List_map_nil, q_List_getElemQ_cons_zero, q_List_getElemQ_cons_succ, true_and, and_self, Bool.not_eq_true', Bool.not_eq_false', List.append_nil, List.nodup_nil, Nat.reduceBEq, q_learn_eq_1, q_condK_eq_1, normRows_T, lookT_here, lookT_next, uf74r1, uf74b2, uf74r3, uf74b4, uf74b5, uf74r6, uf74b7, uf74b8]
       cases hv : varType t.n <;> simp_all [leaf, pairV]
       done)
    | (simp_all [leaf, pairV, cut_eq]; done)
    | (simp_all [leaf, pairV, cut_eq]; rw [if_neg (by omega)]; simp; done)
    | (simp_all [leaf, pairV, cut_eq]; rw [if_pos (by omega)]; simp; done)
    | (exfalso; omega)
end Go.Abs


set_option maxRecDepth 100000
set_option maxHeartbeats 4000000
namespace Go.Abs
open Go.Proofs
def encCV (c : Cell) : V := .agg (encCell c)
theorem s94 (b : Bool) : Spec Try.prog 94 [.bool b] (fun r => r = encCV (yes b)) := by
  refine Spec.of_awlS hf94 okf94 (by simp) fun S hS => ?_
  cases b <;> simp only [q_wpLs_eq_1, q_wpLs_eq_2, q_wpL_eq_1, q_exL_eq_1, q_exL_eq_4, q_exL_eq_6, q_exL_eq_9, q_look_eq_1, q_look_eq_2, q_insT_eq_1, q_insO_eq_1, q_awl_eq_1, q_awl_eq_2, q_awl_eq_5, q_awl_eq_6, q_awl_eq_10, q_AE_thenL_eq_1, q_AE_thenL_eq_3, q_initT_eq_1, q_initT_eq_2, q_putK_eq_1, q_vBuild_eq_1, q_vBuild_eq_2, q_rowV_eq_1, q_ofRow_eq_2, q_pureRow_eq_1, q_pureRow_eq_2, q_V_cells_eq_1, q_V_cells_eq_2, q_splice_eq_1, q_stVarK_eq_1, q_storeK_eq_1, q_mapT_eq_1, q_mapT_eq_2, q_mapO_eq_1, q_mapO_eq_2, q_freeB_eq_1, q_freeT_eq_1, q_freeT_eq_2, q_freeO_eq_1, q_V_noRef_eq_1, q_K_noRef_eq_1, q_endK_eq_2, q_endL_eq_1, q_endV_eq_1, q_resL_eq_1, q_resL_eq_2, q_resX_eq_2, q_resCell_eq_1, q_one_eq_1, q_V_nrm_eq_1, q_V_nrm_eq_2, q_K_nrm_eq_1, q_K_nrm_eq_3, q_O_nrm_eq_1, q_V_owns_eq_4, q_V_toNew_eq_2, q_C_norm_eq_4, q_C_norm_eq_5, q_C_normRow_eq_1, q_C_normRow_eq_2, q_Option_map_some, q_List_map_cons, q_List_map_nil, q_List_take_succ_cons, q_List_take_zero, q_List_drop_succ_cons, q_List_drop_zero, q_List_nil_append, q_List_cons_append, q_List_length_cons, q_List_length_nil, true_and, if_true, and_self, Bool.and_true, Bool.or_true, List.append_nil, List.nodup_nil, Nat.reduceAdd, Nat.reduceLeDiff, Nat.reduceLT, Nat.reduceBEq, Nat.zero_add, Nat.le_refl, q_learn_eq_1, q_condK_eq_1, q_condB_eq_1, q_condB_eq_2, lookT_here, lookT_next, lookO_here, uf94, uf94r1, uf94b2, uf94r3, uf94b4, uf94b5, uf94r6, uf94b7, uf94b8, uf94r9, uf94b10] <;> exact fin hS rfl
theorem s98 (b : Bool) : Spec Try.prog 98 [.bool b] (fun r => r = encCV (yes b)) := by
  refine Spec.of_awlS hf98 okf98 (by simp) fun S hS => ?_
  cases b <;> simp only [q_wpLs_eq_1, q_wpLs_eq_2, q_wpL_eq_1, q_exL_eq_1, q_exL_eq_4, q_exL_eq_6, q_exL_eq_9, q_look_eq_1, q_look_eq_2, q_insT_eq_1, q_insO_eq_1, q_awl_eq_1, q_awl_eq_2, q_awl_eq_5, q_awl_eq_6, q_awl_eq_10, q_AE_thenL_eq_1, q_AE_thenL_eq_3, q_initT_eq_1, q_initT_eq_2, q_putK_eq_1, q_vBuild_eq_1, q_vBuild_eq_2, q_rowV_eq_1, q_ofRow_eq_2, q_pureRow_eq_1, q_pureRow_eq_2, q_V_cells_eq_1, q_V_cells_eq_2, q_splice_eq_1, q_stVarK_eq_1, q_storeK_eq_1, q_mapT_eq_1, q_mapT_eq_2, q_mapO_eq_1, q_mapO_eq_2, q_freeB_eq_1, q_freeT_eq_1, q_freeT_eq_2, q_freeO_eq_1, q_V_noRef_eq_1, q_K_noRef_eq_1, q_endK_eq_2, q_endL_eq_1, q_endV_eq_1, q_resL_eq_1, q_resL_eq_2, q_resX_eq_2, q_resCell_eq_1, q_one_eq_1, q_V_nrm_eq_1, q_V_nrm_eq_2, q_K_nrm_eq_1, q_K_nrm_eq_3, q_O_nrm_eq_1, q_V_owns_eq_4, q_V_toNew_eq_2, q_C_norm_eq_4, q_C_norm_eq_5, q_C_normRow_eq_1, q_C_normRow_eq_2, q_Option_map_some, q_List_map_cons, q_List_map_nil, q_List_take_succ_cons, q_List_take_zero, q_List_drop_succ_cons, q_List_drop_zero, q_List_nil_append, q_List_cons_append, q_List_length_cons, q_List_length_nil, true_and, if_true, and_self, Bool.and_true, Bool.or_true, List.append_nil, List.nodup_nil, Nat.reduceAdd, Nat.reduceLeDiff, Nat.reduceLT, Nat.reduceBEq, Nat.zero_add, Nat.le_refl, q_learn_eq_1, q_condK_eq_1, q_condB_eq_1, q_condB_eq_2, lookT_here, lookT_next, lookO_here, uf98, uf98r1, uf98b2, uf98r3, uf98b4, uf98b5, uf98r6, uf98b7, uf98b8, uf98r9, uf98b10] <;> exact fin hS rfl
theorem s97 (a : Int) : Spec Try.prog 97 [.int .i64 a] (fun r => r = .int .i64 (cut a)) := by
  refine Spec.of_awl hf97 okf97 (by simp) ?_
  simp only [q_wpLs_eq_1, q_wpLs_eq_2, q_wpL_eq_1, q_exL_eq_1, q_exL_eq_34, q_look_eq_1, q_look_eq_2, q_lookO_eq_1, q_insT_eq_1, q_awl_eq_2, q_awl_eq_5, q_awl_eq_10, q_AE_thenL_eq_1, q_initT_eq_1, q_initT_eq_2, q_putK_eq_1, q_vInts_eq_1, q_vInts_eq_2, q_foldV_eq_1, q_vMinmax_eq_1, q_minmaxI_eq_1, q_mapT_eq_1, q_mapT_eq_2, q_mapO_eq_1, q_endK_eq_2, q_endL_eq_1, q_endV_eq_1, q_resL_eq_1, q_resL_eq_2, q_resX_eq_1, q_one_eq_1, q_V_nrm_eq_1, q_K_nrm_eq_1, q_V_owns_eq_1, q_K_owns_eq_2, q_V_toNew_eq_1, q_K_toNew_eq_1, q_C_norm_eq_4, q_Option_map_some, q_List_map_cons, q_List_map_nil, q_List_foldl_cons, q_List_foldl_nil, true_and, if_true, if_false, Bool.false_eq_true, and_self, Int.reduceNeg, List.nodup_nil, Nat.reduceBEq, Nat.zero_add, lookT_here, lookT_next, uf97, uf97r1, uf97b2, uf97r3, uf97b4]
  congr 3
  unfold cut
  split <;> split <;> omega
theorem encCV_eq {a b : Cell} (h : a = b) : encCV a = encCV b := by rw [h]
theorem fin_cell {S : V → Prop} {c : Cell} {k : Bool} {n : Int} (h : S (encCV c)) (e : Cell.mk k n = c) : S (.agg [.bool k, .int .i64 n]) := by subst e; exact h
theorem s80 (a b : Cell) (k : Int) (hk : k = 0 ∨ k = 1) : Spec Try.prog 80 [encCV a, encCV b, .int .i64 k] (fun r => r = encCV (logic a b k)) := by
  obtain ⟨ak, an⟩ := a
  obtain ⟨bk, bn⟩ := b
  refine Spec.of_awlS hf80 okf80 (by simp) fun S hS => ?_
  have hw : IntKind.i64.wrap (1 - k) = 1 - k := by rcases hk with rfl | rfl <;> rfl
  cases ak <;> cases bk <;> simp only [encCV, encCell, hw, q_wpLs_eq_1, q_wpLs_eq_2, q_wpL_eq_1, q_putDL_eq_1, q_AOp_dst_eq_1, q_AOp_dst_eq_3, q_AOp_dst_eq_8, q_AOp_dst_eq_10, q_AOp_dst_eq_20, q_exL_eq_1, q_exL_eq_3, q_exL_eq_4, q_exL_eq_5, q_exL_eq_6, q_exL_eq_8, q_exL_eq_9, q_exL_eq_11, q_exL_eq_21, q_look_eq_1, q_look_eq_2, q_insT_eq_1, q_insO_eq_1, q_awl_eq_1, q_awl_eq_2, q_awl_eq_5, q_awl_eq_6, q_awl_eq_10, q_AE_thenL_eq_1, q_AE_thenL_eq_3, q_initT_eq_1, q_initT_eq_2, q_putK_eq_1, q_vBin_eq_1, q_resV_eq_1, q_binV_eq_1, q_binInt_eq_3, q_cutInt_eq_2, q_cutInt_eq_6, q_vFaddr_eq_1, q_loadO_eq_1, q_isV_eq_1, q_vLoad_eq_1, q_vPick_eq_1, q_vPick_eq_2, q_vPick_eq_3, q_vBuild_eq_1, q_vBuild_eq_2, q_rowV_eq_1, q_ofRow_eq_1, q_ofRow_eq_2, q_pureRow_eq_1, q_pureRow_eq_2, q_V_cells_eq_1, q_V_cells_eq_2, q_splice_eq_1, q_isVarO_eq_1, q_boxK_eq_1, q_stVarK_eq_1, q_storeK_eq_1, q_mapT_eq_1, q_mapT_eq_2, q_mapO_eq_1, q_mapO_eq_2, q_freeB_eq_1, q_freeT_eq_1, q_freeT_eq_2, q_freeO_eq_1, q_freeO_eq_2, q_V_noRef_eq_1, q_V_noRef_eq_2, q_K_noRef_eq_1, q_K_noRef_eq_3, q_O_noRef_eq_1, q_endK_eq_2, q_endL_eq_1, q_endV_eq_1, q_resL_eq_1, q_resL_eq_2, q_resX_eq_2, q_resCell_eq_1, q_one_eq_1, q_V_nrm_eq_1, q_V_nrm_eq_2, q_V_nrm_eq_5, q_K_nrm_eq_1, q_K_nrm_eq_3, q_O_nrm_eq_1, q_V_owns_eq_4, q_V_toNew_eq_2, q_C_norm_eq_4, q_C_norm_eq_5, q_C_normRow_eq_1, q_C_normRow_eq_2, q_Bool_not_true, q_Bool_not_false, q_Option_map_some, q_List_map_cons, q_List_map_nil, q_List_take_succ_cons, q_List_take_zero, q_List_drop_succ_cons, q_List_drop_zero, q_List_nil_append, q_List_cons_append, q_List_length_cons, q_List_length_nil, q_List_all_cons, q_List_all_nil, true_and, if_true, if_false, Bool.false_eq_true, and_self, bne_iff_ne, ne_eq, Bool.and_eq_true, Bool.and_true, Bool.or_true, Bool.false_or, List.append_nil, List.nodup_nil, Nat.reduceAdd, Nat.reduceEqDiff, Nat.reduceLeDiff, Nat.reduceLT, Nat.reduceBEq, Nat.zero_add, Nat.add_zero, Nat.le_refl, q_learn_eq_1, not_false_eq_true, q_guardP_eq_1, q_guardP_eq_2, q_guardP_eq_3, q_condK_eq_1, q_condB_eq_1, q_condB_eq_2, q_exK_eq_1, condB_beq, lookT_here, lookT_next, lookO_here, lookO_next, uf80, uf80r1, uf80b2, uf80r3, uf80b4, uf80b5, uf80r6, uf80b7, uf80b8, uf80r9, uf80b10, uf80b11, uf80r12, uf80b13, uf80b14, uf80r15, uf80b16]
  all_goals repeat' (first | with_reducible refine And.intro ?_ ?_ | with_reducible intro _)
  all_goals refine fin hS (encCV_eq (a := ⟨_, _⟩) ?_); simp_all [logic]
theorem cell_at {l : List Cell} {i : Nat} (h : i < l.length) : (l.map encCell).getD i [] = [.bool l[i].known, .int .i64 l[i].n] := by simp [h, encCell]
theorem s79 (v : Int) (l : List Cell) : Spec Try.prog 79 [.int .i64 v, lst 2 (l.map encCell)] (fun r => r = encCV (valueC v l)) := by
  refine Spec.of_awlS hf79 okf79 (by simp) fun S hS => ?_
  by_cases h1 : v < 0
  · simp only [h1, q_wpLs_eq_1, q_wpLs_eq_2, q_wpL_eq_1, q_putDL_eq_1, q_AOp_dst_eq_1, q_AOp_dst_eq_10, q_AOp_dst_eq_27, q_exL_eq_1, q_exL_eq_3, q_exL_eq_4, q_exL_eq_6, q_exL_eq_9, q_exL_eq_11, q_look_eq_1, q_look_eq_2, q_insT_eq_1, q_insO_eq_1, q_awl_eq_2, q_awl_eq_5, q_awl_eq_6, q_awl_eq_10, q_AE_thenL_eq_1, q_AE_thenL_eq_3, q_initT_eq_1, q_initT_eq_2, q_putK_eq_1, q_vBin_eq_1, q_resV_eq_1, q_binV_eq_1, q_binInt_eq_3, q_cutInt_eq_8, q_vPick_eq_2, q_vBuild_eq_1, q_rowV_eq_1, q_ofRow_eq_2, q_pureRow_eq_1, q_pureRow_eq_2, q_V_cells_eq_2, q_splice_eq_1, q_stVarK_eq_1, q_storeK_eq_1, q_mapT_eq_1, q_mapT_eq_2, q_mapO_eq_1, q_mapO_eq_2, q_freeB_eq_1, q_freeT_eq_1, q_freeT_eq_2, q_freeO_eq_1, q_V_noRef_eq_1, q_K_noRef_eq_1, q_endK_eq_2, q_endL_eq_1, q_endV_eq_1, q_resL_eq_1, q_resL_eq_2, q_resX_eq_2, q_resCell_eq_1, q_one_eq_1, q_V_nrm_eq_1, q_V_nrm_eq_2, q_V_nrm_eq_5, q_K_nrm_eq_1, q_K_nrm_eq_3, q_O_nrm_eq_1, q_V_owns_eq_4, q_V_toNew_eq_2, q_C_norm_eq_4, q_C_norm_eq_5, q_C_normRow_eq_1, q_C_normRow_eq_2, q_Bool_not_false, q_Option_map_some, q_List_map_cons, q_List_map_nil, q_List_take_succ_cons, q_List_take_zero, q_List_drop_succ_cons, q_List_drop_zero, q_List_nil_append, q_List_length_cons, q_List_length_nil, true_and, if_true, and_self, Bool.and_true, Bool.or_true, List.append_nil, List.nodup_nil, Nat.reduceAdd, Nat.reduceLT, Nat.reduceBEq, Nat.zero_add, Nat.le_refl, q_learn_eq_1, q_guardP_eq_2, q_condK_eq_1, q_condB_eq_1, decide_true, norm_lst, normRows_Ce, lookT_here, lookT_next, lookO_here, uf79, uf79r25, uf79b26, uf79b27, uf79r28, uf79b29, uf79b30, uf79r31, uf79b32]
    exact fin hS (encCV_eq (a := ⟨_, _⟩) (by simp [valueC, h1]))
  by_cases h2 : v ≥ l.length
  · simp only [h1, h2, q_wpLs_eq_1, q_wpLs_eq_2, q_wpL_eq_1, q_AOp_dst_eq_1, q_AOp_dst_eq_10, q_AOp_dst_eq_27, q_exL_eq_1, q_exL_eq_3, q_exL_eq_4, q_exL_eq_6, q_exL_eq_9, q_exL_eq_11, q_exL_eq_30, q_look_eq_1, q_look_eq_2, q_insT_eq_1, q_insO_eq_1, q_awl_eq_2, q_awl_eq_5, q_awl_eq_6, q_awl_eq_10, q_AE_thenL_eq_1, q_AE_thenL_eq_3, q_initT_eq_1, q_initT_eq_2, q_putK_eq_1, q_vBin_eq_1, q_resV_eq_1, q_binV_eq_1, q_binInt_eq_3, q_cutInt_eq_8, q_cutInt_eq_11, q_vPick_eq_1, q_vBuild_eq_1, q_rowV_eq_1, q_ofRow_eq_2, q_pureRow_eq_1, q_pureRow_eq_2, q_V_cells_eq_2, q_splice_eq_1, q_stVarK_eq_1, q_storeK_eq_1, q_mapT_eq_1, q_mapT_eq_2, q_mapO_eq_1, q_mapO_eq_2, q_freeB_eq_1, q_freeT_eq_1, q_freeT_eq_2, q_freeO_eq_1, q_V_noRef_eq_1, q_K_noRef_eq_1, q_endK_eq_2, q_endL_eq_1, q_endV_eq_1, q_resL_eq_1, q_resL_eq_2, q_resX_eq_2, q_resCell_eq_1, q_one_eq_1, q_V_nrm_eq_1, q_V_nrm_eq_2, q_K_nrm_eq_1, q_K_nrm_eq_3, q_O_nrm_eq_1, q_V_owns_eq_4, q_V_toNew_eq_2, q_C_norm_eq_4, q_C_norm_eq_5, q_C_normRow_eq_1, q_C_normRow_eq_2, q_Bool_not_false, q_Option_map_some, q_List_map_cons, q_List_map_nil, q_List_take_succ_cons, q_List_take_zero, q_List_drop_succ_cons, q_List_drop_zero, q_List_nil_append, q_List_length_cons, q_List_length_nil, true_and, if_true, if_false, Bool.false_eq_true, and_self, Bool.and_true, Bool.or_true, List.append_nil, List.nodup_nil, Nat.reduceAdd, Nat.reduceLT, Nat.reduceBEq, Nat.zero_add, Nat.le_refl, q_learn_eq_1, q_guardP_eq_2, q_condK_eq_1, q_condB_eq_1, q_condB_eq_2, q_exK_eq_1, decide_true, decide_false, r_vLen_lst, norm_lst, normRows_Ce, List.length_map, lookT_here, lookT_next, lookO_here, uf79, uf79r25, uf79b26, uf79b27, uf79r28, uf79b29, uf79b30, uf79r31, uf79b32]
    exact fin hS (encCV_eq (a := ⟨_, _⟩) (by simp [valueC, h2]))
  have h3 : v.toNat < l.length := by omega
  have h4 : v < l.length := by omega
  have h5 : 0 ≤ v := by omega
  obtain ⟨kn, n, hc⟩ : ∃ k n, l[v.toNat] = Cell.mk k n := ⟨_, _, rfl⟩
  have hv : valueC v l = if kn = false then ⟨false, 0⟩ else if (varType v).getD 0 = 0 then ⟨true, cut n⟩ else if n ≠ 0 then ⟨true, 1⟩ else ⟨true, 0⟩ := by
    simp only [valueC, h1, h2, or_self, if_false, List.getD_eq_getElem?_getD, List.getElem?_eq_getElem h3, Option.getD_some, hc]
  cases kn
  · simp only [h1, h2, h4, h5, cell_at h3, hc, q_wpLs_eq_1, q_wpLs_eq_2, q_wpL_eq_1, q_AOp_dst_eq_1, q_AOp_dst_eq_10, q_AOp_dst_eq_27, q_exL_eq_1, q_exL_eq_3, q_exL_eq_4, q_exL_eq_6, q_exL_eq_8, q_exL_eq_9, q_exL_eq_11, q_exL_eq_15, q_exL_eq_21, q_exL_eq_23, q_exL_eq_30, q_look_eq_1, q_look_eq_2, q_insT_eq_1, q_insO_eq_1, q_awl_eq_1, q_awl_eq_2, q_awl_eq_5, q_awl_eq_6, q_awl_eq_10, q_AE_thenL_eq_1, q_AE_thenL_eq_3, q_initT_eq_1, q_initT_eq_2, q_putK_eq_1, q_vBin_eq_1, q_resV_eq_1, q_binV_eq_1, q_binInt_eq_3, q_cutInt_eq_8, q_cutInt_eq_11, q_vUn_eq_1, q_unV_eq_2, q_mapC_eq_1, q_vFaddr_eq_1, q_partV_eq_1, q_loadO_eq_1, q_isV_eq_1, q_vLoad_eq_1, q_vLoad_eq_2, q_vPick_eq_1, q_vBuild_eq_1, q_rowV_eq_1, q_ofRow_eq_1, q_ofRow_eq_2, q_pureRow_eq_1, q_pureRow_eq_2, q_V_cells_eq_2, q_splice_eq_1, q_isVarO_eq_1, q_stVarK_eq_1, q_storeK_eq_1, q_mapT_eq_1, q_mapT_eq_2, q_mapO_eq_1, q_mapO_eq_2, q_freeB_eq_1, q_freeT_eq_1, q_freeT_eq_2, q_freeO_eq_1, q_freeO_eq_2, q_V_noRef_eq_1, q_V_noRef_eq_2, q_K_noRef_eq_1, q_K_noRef_eq_3, q_K_noRef_eq_5, q_O_noRef_eq_1, q_endK_eq_2, q_endL_eq_1, q_endV_eq_1, q_resL_eq_1, q_resL_eq_2, q_resX_eq_2, q_resCell_eq_1, q_one_eq_1, q_V_nrm_eq_1, q_V_nrm_eq_2, q_K_nrm_eq_1, q_K_nrm_eq_2, q_K_nrm_eq_3, q_O_nrm_eq_1, q_V_owns_eq_4, q_V_toNew_eq_2, q_C_norm_eq_4, q_C_norm_eq_5, q_C_normRow_eq_1, q_C_normRow_eq_2, q_Bool_not_false, q_Option_map_some, q_List_map_cons, q_List_map_nil, q_List_take_succ_cons, q_List_take_zero, q_List_drop_succ_cons, q_List_drop_zero, q_List_nil_append, q_List_length_cons, q_List_length_nil, q_List_all_cons, q_List_all_nil, true_and, if_true, if_false, Bool.false_eq_true, and_self, bne_iff_ne, ne_eq, Bool.and_true, Bool.true_and, Bool.or_true, Bool.false_or, List.append_nil, List.nodup_nil, Nat.reduceAdd, Nat.reduceEqDiff, Nat.reduceLeDiff, Nat.reduceLT, Nat.reduceBEq, Nat.zero_add, Nat.add_zero, Nat.le_refl, q_learn_eq_1, not_false_eq_true, q_guardP_eq_2, q_condK_eq_1, q_condB_eq_1, q_condB_eq_2, q_exK_eq_1, decide_false, r_vLen_lst, r_vIaddr_lst, norm_lst, normRows_Ce, List.length_map, lookT_here, lookT_next, lookO_here, lookO_next, uf79, uf79r17, uf79b18, uf79b19, uf79r20, uf79b21, uf79b22, uf79r23, uf79b24, uf79b27, uf79r28, uf79b29, uf79b30, uf79r31, uf79b32]
    exact fin hS (encCV_eq (a := ⟨_, _⟩) (by rw [hv]; rfl))
  · simp only [h1, h2, h4, h5, cell_at h3, hc, q_wpLs_eq_1, q_wpLs_eq_2, q_wpL_eq_1, q_AOp_dst_eq_1, q_AOp_dst_eq_10, q_AOp_dst_eq_27, q_exL_eq_1, q_exL_eq_3, q_exL_eq_4, q_exL_eq_8, q_exL_eq_9, q_exL_eq_11, q_exL_eq_15, q_exL_eq_21, q_exL_eq_23, q_exL_eq_28, q_exL_eq_30, q_look_eq_1, q_look_eq_2, q_insT_eq_1, q_insO_eq_1, q_awl_eq_1, q_awl_eq_2, q_awl_eq_5, q_awl_eq_6, q_AE_thenL_eq_1, q_initT_eq_1, q_initT_eq_2, q_putK_eq_1, q_vBin_eq_1, q_resV_eq_1, q_binV_eq_1, q_binInt_eq_3, q_cutInt_eq_8, q_cutInt_eq_11, q_vUn_eq_1, q_unV_eq_2, q_mapC_eq_1, q_vFaddr_eq_1, q_partV_eq_1, q_loadO_eq_1, q_isV_eq_1, q_vLoad_eq_1, q_vLoad_eq_2, q_vPick_eq_1, q_ofRow_eq_1, q_pureRow_eq_1, q_pureRow_eq_2, q_V_cells_eq_2, q_splice_eq_1, q_isVarO_eq_1, q_stVarK_eq_1, q_storeK_eq_1, q_freeB_eq_1, q_freeT_eq_1, q_freeT_eq_2, q_freeO_eq_1, q_freeO_eq_2, q_V_noRef_eq_1, q_V_noRef_eq_2, q_K_noRef_eq_1, q_K_noRef_eq_3, q_K_noRef_eq_5, q_O_noRef_eq_1, q_Bool_not_true, q_Bool_not_false, q_Option_map_some, q_List_map_cons, q_List_map_nil, q_List_take_succ_cons, q_List_take_zero, q_List_drop_succ_cons, q_List_drop_zero, q_List_nil_append, q_List_length_cons, q_List_length_nil, q_List_all_cons, q_List_all_nil, true_and, if_true, if_false, Bool.false_eq_true, and_self, bne_iff_ne, ne_eq, Bool.and_true, Bool.true_and, Bool.or_true, Bool.false_or, List.append_nil, Nat.reduceAdd, Nat.reduceEqDiff, Nat.reduceLeDiff, Nat.reduceBEq, Nat.zero_add, Nat.add_zero, Nat.le_refl, q_learn_eq_1, not_false_eq_true, q_guardP_eq_2, q_condK_eq_1, q_condB_eq_2, q_exK_eq_1, decide_false, r_vLen_lst, r_vIaddr_lst, List.length_map, lookT_here, lookT_next, lookO_here, uf79, uf79r15, uf79b16, uf79b19, uf79r20, uf79b21, uf79b22, uf79r23, uf79b24, uf79b27, uf79r28, uf79b29, uf79b30, uf79r31, uf79b32]
    refine call_s (s34 v) ?_
    simp only [varTypeV, q_wpLs_eq_1, q_wpLs_eq_2, q_wpL_eq_1, q_exL_eq_1, q_exL_eq_6, q_exL_eq_8, q_exL_eq_9, q_exL_eq_11, q_exL_eq_21, q_exL_eq_27, q_exL_eq_28, q_look_eq_1, q_look_eq_2, q_insT_eq_1, q_insO_eq_1, q_awl_eq_1, q_awl_eq_2, q_awl_eq_5, q_awl_eq_6, q_awl_eq_10, q_AE_thenL_eq_1, q_AE_thenL_eq_3, q_putK_eq_1, q_vBin_eq_1, q_resV_eq_1, q_binV_eq_1, q_binInt_eq_3, q_cutInt_eq_6, q_cutInt_eq_7, q_vExtr_eq_1, q_vFaddr_eq_1, q_loadO_eq_1, q_isV_eq_1, q_vLoad_eq_1, q_vBuild_eq_1, q_vBuild_eq_2, q_rowV_eq_1, q_ofRow_eq_1, q_ofRow_eq_2, q_pureRow_eq_1, q_pureRow_eq_2, q_V_cells_eq_1, q_V_cells_eq_2, q_splice_eq_1, q_isVarO_eq_1, q_stVarK_eq_1, q_storeK_eq_1, q_mapT_eq_1, q_mapT_eq_2, q_mapO_eq_1, q_mapO_eq_2, q_endK_eq_2, q_endL_eq_1, q_endV_eq_1, q_resL_eq_1, q_resL_eq_2, q_resX_eq_2, q_resCell_eq_1, q_one_eq_1, q_V_nrm_eq_1, q_V_nrm_eq_2, q_V_nrm_eq_4, q_K_nrm_eq_1, q_K_nrm_eq_2, q_K_nrm_eq_3, q_V_nrmL_eq_1, q_V_nrmL_eq_2, q_O_nrm_eq_1, q_V_owns_eq_4, q_V_toNew_eq_2, q_C_norm_eq_4, q_C_norm_eq_5, q_C_normRow_eq_1, q_C_normRow_eq_2, q_Option_map_some, q_List_map_cons, q_List_map_nil, q_List_take_succ_cons, q_List_take_zero, q_List_drop_succ_cons, q_List_drop_zero, q_List_nil_append, q_List_cons_append, q_List_length_cons, q_List_length_nil, q_List_getElemQ_cons_zero, q_List_getElemQ_cons_succ, true_and, if_true, if_false, Bool.false_eq_true, and_self, List.append_nil, List.nodup_nil, Nat.reduceAdd, Nat.reduceLeDiff, Nat.reduceLT, Nat.reduceBEq, Nat.zero_add, Nat.le_refl, q_learn_eq_1, q_condK_eq_1, condB_beq, condB_bne, norm_lst, normRows_Ce, lookT_here, lookT_next, lookO_here, lookO_next, uf79r1, uf79b2, uf79r3, uf79b4, uf79b5, uf79r6, uf79b7, uf79b8, uf79r9, uf79b10, uf79b11, uf79r12, uf79b13, uf79b14]
    rw [if_neg (by simp)] at hv
    repeat' (first | with_reducible refine And.intro ?_ ?_ | with_reducible intro _)
    · rename_i hk
      refine call_s (s97 n) ?_
      simp only [q_wpLs_eq_1, q_wpLs_eq_2, q_wpL_eq_1, q_exL_eq_6, q_exL_eq_9, q_look_eq_1, q_look_eq_2, q_insT_eq_1, q_insO_eq_1, q_awl_eq_10, q_AE_thenL_eq_3, q_putK_eq_1, q_vBuild_eq_1, q_vBuild_eq_2, q_rowV_eq_1, q_ofRow_eq_2, q_pureRow_eq_1, q_pureRow_eq_2, q_V_cells_eq_1, q_V_cells_eq_2, q_splice_eq_1, q_stVarK_eq_1, q_storeK_eq_1, q_mapT_eq_1, q_mapT_eq_2, q_mapO_eq_1, q_mapO_eq_2, q_endK_eq_2, q_endL_eq_1, q_endV_eq_1, q_resL_eq_1, q_resL_eq_2, q_resX_eq_2, q_resCell_eq_1, q_one_eq_1, q_V_nrm_eq_1, q_V_nrm_eq_2, q_V_nrm_eq_4, q_K_nrm_eq_1, q_K_nrm_eq_2, q_K_nrm_eq_3, q_V_nrmL_eq_1, q_V_nrmL_eq_2, q_O_nrm_eq_1, q_V_owns_eq_4, q_V_toNew_eq_2, q_C_norm_eq_4, q_C_norm_eq_5, q_C_normRow_eq_1, q_C_normRow_eq_2, q_Option_map_some, q_List_map_cons, q_List_map_nil, q_List_take_succ_cons, q_List_take_zero, q_List_drop_succ_cons, q_List_drop_zero, q_List_nil_append, q_List_cons_append, q_List_length_cons, q_List_length_nil, true_and, if_true, and_self, List.append_nil, List.nodup_nil, Nat.reduceAdd, Nat.reduceLeDiff, Nat.reduceLT, Nat.reduceBEq, Nat.zero_add, Nat.le_refl, norm_lst, normRows_Ce, lookT_here, lookT_next, lookO_here, lookO_next]
      exact fin hS (encCV_eq (a := ⟨_, _⟩) (by rw [hv, if_pos hk]; rfl))
    · rename_i hk hn
      exact fin hS (encCV_eq (a := ⟨_, _⟩) (by rw [hv, if_neg hk, if_pos hn]))
    · rename_i hk hn
      exact fin hS (encCV_eq (a := ⟨_, _⟩) (by rw [hv, if_neg hk, if_neg (by simp [hn])]))
def machV (l : List Cell) : V := .agg [lstC 2 (l.map encCell)]
theorem s76 (v : Int) (l : List Cell) (h0 : 0 ≤ v) (h20 : v < 20) : Spec Try.prog 76 [machV l, .int .i64 v] (fun r => r = encCV (valueC v l)) := by
  refine Spec.of_awlS hf76 okf76 (by simp [machV]) fun S hS => ?_
  have h1 : ¬ v < 0 := by omega
  by_cases h2 : v ≥ l.length
  · simp only [machV, h1, h2, q_wpLs_eq_1, q_wpLs_eq_2, q_wpL_eq_1, q_putDL_eq_1, q_AOp_dst_eq_1, q_AOp_dst_eq_8, q_AOp_dst_eq_14, q_AOp_dst_eq_20, q_AOp_dst_eq_22, q_exL_eq_1, q_exL_eq_3, q_exL_eq_4, q_exL_eq_5, q_exL_eq_6, q_exL_eq_8, q_exL_eq_9, q_exL_eq_11, q_exL_eq_21, q_exL_eq_30, q_look_eq_1, q_look_eq_2, q_insT_eq_1, q_insO_eq_1, q_awl_eq_2, q_awl_eq_5, q_awl_eq_6, q_awl_eq_10, q_AE_thenL_eq_1, q_AE_thenL_eq_3, q_initT_eq_1, q_initT_eq_2, q_putK_eq_1, q_vBin_eq_1, q_resV_eq_1, q_binV_eq_1, q_binInt_eq_3, q_cutInt_eq_11, q_vFaddr_eq_1, q_loadO_eq_1, q_isV_eq_1, q_vLoad_eq_1, q_vPick_eq_2, q_vBuild_eq_1, q_rowV_eq_1, q_ofRow_eq_1, q_ofRow_eq_2, q_pureRow_eq_1, q_pureRow_eq_2, q_V_cells_eq_2, q_splice_eq_1, q_isVarO_eq_1, q_boxK_eq_1, q_stVarK_eq_1, q_storeK_eq_1, q_mapT_eq_1, q_mapT_eq_2, q_mapO_eq_1, q_mapO_eq_2, q_freeB_eq_1, q_freeT_eq_1, q_freeT_eq_2, q_freeO_eq_1, q_freeO_eq_2, q_V_noRef_eq_1, q_V_noRef_eq_2, q_K_noRef_eq_1, q_K_noRef_eq_3, q_O_noRef_eq_1, q_endK_eq_2, q_endL_eq_1, q_endV_eq_1, q_resL_eq_1, q_resL_eq_2, q_resX_eq_2, q_resCell_eq_1, q_one_eq_1, q_V_nrm_eq_1, q_V_nrm_eq_2, q_V_nrm_eq_5, q_K_nrm_eq_1, q_K_nrm_eq_3, q_O_nrm_eq_1, q_V_owns_eq_4, q_V_toNew_eq_2, q_C_norm_eq_4, q_C_norm_eq_5, q_C_normRow_eq_1, q_C_normRow_eq_2, q_Bool_not_false, q_Option_map_some, q_List_map_cons, q_List_map_nil, q_List_take_succ_cons, q_List_take_zero, q_List_drop_succ_cons, q_List_drop_zero, q_List_nil_append, q_List_length_cons, q_List_length_nil, q_List_all_cons, q_List_all_nil, true_and, if_true, if_false, Bool.false_eq_true, and_self, bne_iff_ne, ne_eq, Bool.and_true, Bool.or_true, Bool.false_or, List.append_nil, List.nodup_nil, Nat.reduceAdd, Nat.reduceEqDiff, Nat.reduceLT, Nat.reduceBEq, Nat.zero_add, Nat.add_zero, Nat.le_refl, q_learn_eq_1, not_false_eq_true, q_guardP_eq_2, q_condK_eq_1, q_condB_eq_1, decide_true, r_vLen_lst, norm_lst, normRows_Ce, List.length_map, lookT_here, lookT_next, lookO_here, lookO_next, uf76, uf76r11, uf76b12, uf76b13, uf76r14, uf76b15, uf76b16, uf76r17, uf76b18]
    exact fin hS (encCV_eq (a := ⟨_, _⟩) (by simp [valueC, h2]))
  have h3 : v.toNat < l.length := by omega
  have h4 : v < l.length := by omega
  have h5 : 0 ≤ v := by omega
  obtain ⟨kn, n, hc⟩ : ∃ k n, l[v.toNat] = Cell.mk k n := ⟨_, _, rfl⟩
  have hv : valueC v l = if kn = false then ⟨false, 0⟩ else if (varType v).getD 0 = 0 then ⟨true, cut n⟩ else if n ≠ 0 then ⟨true, 1⟩ else ⟨true, 0⟩ := by
    simp only [valueC, h1, h2, or_self, if_false, List.getD_eq_getElem?_getD, List.getElem?_eq_getElem h3, Option.getD_some, hc]
  cases kn
  · simp only [machV, h1, h2, h4, h5, cell_at h3, hc, q_wpLs_eq_1, q_wpLs_eq_2, q_wpL_eq_1, q_AOp_dst_eq_1, q_AOp_dst_eq_8, q_AOp_dst_eq_14, q_AOp_dst_eq_20, q_AOp_dst_eq_22, q_exL_eq_1, q_exL_eq_3, q_exL_eq_4, q_exL_eq_5, q_exL_eq_6, q_exL_eq_8, q_exL_eq_9, q_exL_eq_11, q_exL_eq_15, q_exL_eq_21, q_exL_eq_23, q_exL_eq_30, q_look_eq_1, q_look_eq_2, q_insT_eq_1, q_insO_eq_1, q_awl_eq_2, q_awl_eq_5, q_awl_eq_6, q_awl_eq_10, q_AE_thenL_eq_1, q_AE_thenL_eq_3, q_initT_eq_1, q_initT_eq_2, q_putK_eq_1, q_vBin_eq_1, q_resV_eq_1, q_binV_eq_1, q_binInt_eq_3, q_cutInt_eq_11, q_vUn_eq_1, q_unV_eq_2, q_mapC_eq_1, q_vFaddr_eq_1, q_vFaddr_eq_3, q_partV_eq_2, q_loadO_eq_1, q_isV_eq_1, q_vLoad_eq_1, q_vLoad_eq_2, q_vPick_eq_1, q_vBuild_eq_1, q_rowV_eq_1, q_ofRow_eq_1, q_ofRow_eq_2, q_pureRow_eq_1, q_pureRow_eq_2, q_V_cells_eq_2, q_splice_eq_1, q_isVarO_eq_1, q_boxK_eq_1, q_stVarK_eq_1, q_storeK_eq_1, q_mapT_eq_1, q_mapT_eq_2, q_mapO_eq_1, q_mapO_eq_2, q_freeB_eq_1, q_freeT_eq_1, q_freeT_eq_2, q_freeO_eq_1, q_freeO_eq_2, q_V_noRef_eq_1, q_V_noRef_eq_2, q_K_noRef_eq_1, q_K_noRef_eq_3, q_O_noRef_eq_1, q_endK_eq_2, q_endL_eq_1, q_endV_eq_1, q_resL_eq_1, q_resL_eq_2, q_resX_eq_2, q_resCell_eq_1, q_one_eq_1, q_V_nrm_eq_1, q_V_nrm_eq_2, q_K_nrm_eq_1, q_K_nrm_eq_2, q_K_nrm_eq_3, q_O_nrm_eq_1, q_V_owns_eq_4, q_V_toNew_eq_2, q_C_norm_eq_4, q_C_norm_eq_5, q_C_normRow_eq_1, q_C_normRow_eq_2, q_Bool_not_false, q_Option_map_some, q_List_map_cons, q_List_map_nil, q_List_take_succ_cons, q_List_take_zero, q_List_drop_succ_cons, q_List_drop_zero, q_List_nil_append, q_List_length_cons, q_List_length_nil, q_List_getD_cons_zero, q_List_all_cons, q_List_all_nil, true_and, if_true, if_false, Bool.false_eq_true, and_self, bne_iff_ne, ne_eq, Bool.and_true, Bool.or_true, Bool.false_or, List.append_nil, List.nodup_nil, Nat.reduceAdd, Nat.reduceEqDiff, Nat.reduceLeDiff, Nat.reduceLT, Nat.reduceBEq, Nat.zero_add, Nat.add_zero, Nat.le_refl, q_learn_eq_1, not_false_eq_true, q_guardP_eq_2, q_condK_eq_1, q_condB_eq_1, q_condB_eq_2, q_exK_eq_1, decide_false, r_vLen_lst, r_vIaddr_lst, norm_lst, normRows_Ce, List.length_map, lookT_here, lookT_next, lookO_here, lookO_next, uf76, uf76r11, uf76b12, uf76b13, uf76r14, uf76b15, uf76b16, uf76r17, uf76b18]
    exact fin hS (encCV_eq (a := ⟨_, _⟩) (by rw [hv]; rfl))
  · simp only [machV, h1, h2, h4, h5, cell_at h3, hc, q_wpLs_eq_1, q_wpLs_eq_2, q_wpL_eq_1, q_AOp_dst_eq_1, q_AOp_dst_eq_8, q_AOp_dst_eq_14, q_AOp_dst_eq_20, q_AOp_dst_eq_22, q_exL_eq_1, q_exL_eq_3, q_exL_eq_4, q_exL_eq_5, q_exL_eq_8, q_exL_eq_11, q_exL_eq_15, q_exL_eq_21, q_exL_eq_23, q_exL_eq_28, q_exL_eq_30, q_look_eq_1, q_look_eq_2, q_insT_eq_1, q_insO_eq_1, q_awl_eq_1, q_awl_eq_2, q_awl_eq_5, q_awl_eq_6, q_AE_thenL_eq_1, q_initT_eq_1, q_initT_eq_2, q_putK_eq_1, q_vBin_eq_1, q_resV_eq_1, q_binV_eq_1, q_binInt_eq_3, q_cutInt_eq_11, q_vUn_eq_1, q_unV_eq_2, q_mapC_eq_1, q_vFaddr_eq_1, q_vFaddr_eq_3, q_partV_eq_2, q_loadO_eq_1, q_isV_eq_1, q_vLoad_eq_1, q_vLoad_eq_2, q_vPick_eq_1, q_ofRow_eq_1, q_pureRow_eq_1, q_pureRow_eq_2, q_isVarO_eq_1, q_boxK_eq_1, q_freeB_eq_1, q_freeT_eq_1, q_freeT_eq_2, q_freeO_eq_1, q_freeO_eq_2, q_V_noRef_eq_1, q_V_noRef_eq_2, q_K_noRef_eq_1, q_K_noRef_eq_3, q_O_noRef_eq_1, q_Bool_not_true, q_Bool_not_false, q_Option_map_some, q_List_map_cons, q_List_map_nil, q_List_take_succ_cons, q_List_take_zero, q_List_drop_zero, q_List_length_cons, q_List_length_nil, q_List_getD_cons_zero, q_List_all_cons, q_List_all_nil, true_and, if_true, if_false, Bool.false_eq_true, and_self, bne_iff_ne, ne_eq, Bool.and_true, Bool.or_true, Bool.false_or, Nat.reduceAdd, Nat.reduceEqDiff, Nat.reduceLeDiff, Nat.reduceBEq, Nat.zero_add, Nat.add_zero, Nat.le_refl, q_learn_eq_1, not_false_eq_true, q_guardP_eq_2, q_condK_eq_1, q_condB_eq_2, q_exK_eq_1, decide_false, r_vLen_lst, r_vIaddr_lst, List.length_map, lookT_here, lookT_next, lookO_here, lookO_next, uf76, uf76r8, uf76b9, uf76b10, uf76b13, uf76r14, uf76b15, uf76b16, uf76r17, uf76b18]
    refine call_s (s33 v) ?_
    simp only [varTypeV, h4, h5, cell_at h3, hc, q_wpLs_eq_1, q_wpLs_eq_2, q_wpL_eq_1, q_exL_eq_1, q_exL_eq_8, q_exL_eq_11, q_exL_eq_21, q_exL_eq_23, q_exL_eq_27, q_exL_eq_28, q_look_eq_1, q_look_eq_2, q_insT_eq_1, q_awl_eq_1, q_awl_eq_2, q_awl_eq_5, q_awl_eq_6, q_AE_thenL_eq_1, q_putK_eq_1, q_vBin_eq_1, q_resV_eq_1, q_binV_eq_1, q_binInt_eq_3, q_cutInt_eq_6, q_cutInt_eq_7, q_vExtr_eq_1, q_vFaddr_eq_1, q_vFaddr_eq_3, q_partV_eq_2, q_loadO_eq_1, q_isV_eq_1, q_vLoad_eq_1, q_vLoad_eq_2, q_ofRow_eq_1, q_pureRow_eq_1, q_pureRow_eq_2, q_isVarO_eq_1, q_Option_map_some, q_List_map_cons, q_List_map_nil, q_List_take_succ_cons, q_List_take_zero, q_List_drop_zero, q_List_length_cons, q_List_length_nil, q_List_getElemQ_cons_zero, q_List_getElemQ_cons_succ, q_List_getD_cons_zero, q_List_getD_cons_succ, true_and, if_true, if_false, Bool.false_eq_true, and_self, Nat.reduceAdd, Nat.reduceBEq, Nat.zero_add, Nat.add_zero, Nat.le_refl, q_learn_eq_1, q_condK_eq_1, condB_beq, r_vIaddr_lst, List.length_map, lookT_here, lookT_next, lookO_here, lookO_next, uf76r1, uf76b2, uf76r3, uf76b4, uf76b5, uf76r6, uf76b7]
    rw [if_neg (by simp)] at hv
    have hty : (varType v).getD 0 = 0 ∨ (varType v).getD 0 = 1 := by unfold varType; split <;> (try split) <;> simp
    repeat' (first | with_reducible refine And.intro ?_ ?_ | with_reducible intro _)
    · rename_i hk
      refine call_r (s94 (n != 0)) ?_
      simp only [encCV, encCell, q_wpLs_eq_1, q_wpLs_eq_2, q_wpL_eq_1, q_exL_eq_9, q_look_eq_1, q_insT_eq_1, q_insO_eq_1, q_awl_eq_10, q_AE_thenL_eq_3, q_ofRow_eq_2, q_pureRow_eq_1, q_pureRow_eq_2, q_V_cells_eq_2, q_splice_eq_1, q_stVarK_eq_1, q_storeK_eq_1, q_mapT_eq_1, q_mapT_eq_2, q_mapO_eq_1, q_mapO_eq_2, q_endK_eq_2, q_endL_eq_1, q_endV_eq_1, q_resL_eq_1, q_resL_eq_2, q_resX_eq_2, q_resCell_eq_1, q_one_eq_1, q_V_nrm_eq_1, q_V_nrm_eq_2, q_V_nrm_eq_4, q_K_nrm_eq_1, q_K_nrm_eq_2, q_K_nrm_eq_3, q_V_nrmL_eq_1, q_V_nrmL_eq_2, q_O_nrm_eq_1, q_V_owns_eq_4, q_V_toNew_eq_2, q_C_norm_eq_4, q_C_norm_eq_5, q_C_normRow_eq_1, q_C_normRow_eq_2, q_regN_eq_2, q_V_reg_eq_4, q_freesL_eq_1, q_addsL_eq_1, q_regK_eq_1, q_retK_eq_2, q_Option_map_some, q_List_map_cons, q_List_map_nil, q_List_take_succ_cons, q_List_take_zero, q_List_drop_succ_cons, q_List_drop_zero, q_List_nil_append, q_List_length_cons, q_List_length_nil, true_and, if_true, and_self, List.append_nil, List.nodup_nil, Nat.reduceAdd, Nat.reduceMul, Nat.reduceLT, Nat.reduceBEq, Nat.zero_add, Nat.le_refl, norm_lst, normRows_Ce, lookT_here, lookT_next, lookO_here]
      refine fin hS (encCV_eq (a := yes (n != 0)) ?_)
      rw [hv, if_neg (by omega)]
      by_cases hn : n = 0 <;> simp [yes, hn]
    · rename_i hk
      refine call_s (s93 n) ?_
      simp only [q_wpLs_eq_1, q_wpLs_eq_2, q_wpL_eq_1, q_exL_eq_6, q_exL_eq_9, q_look_eq_1, q_look_eq_2, q_insT_eq_1, q_insO_eq_1, q_awl_eq_10, q_putK_eq_1, q_vBuild_eq_1, q_vBuild_eq_2, q_rowV_eq_1, q_ofRow_eq_2, q_pureRow_eq_1, q_pureRow_eq_2, q_V_cells_eq_1, q_V_cells_eq_2, q_splice_eq_1, q_stVarK_eq_1, q_storeK_eq_1, q_mapT_eq_1, q_mapT_eq_2, q_mapO_eq_1, q_mapO_eq_2, q_endK_eq_2, q_endL_eq_1, q_endV_eq_1, q_resL_eq_1, q_resL_eq_2, q_resX_eq_2, q_resCell_eq_1, q_one_eq_1, q_V_nrm_eq_1, q_V_nrm_eq_2, q_V_nrm_eq_4, q_K_nrm_eq_1, q_K_nrm_eq_2, q_K_nrm_eq_3, q_V_nrmL_eq_1, q_V_nrmL_eq_2, q_O_nrm_eq_1, q_V_owns_eq_4, q_V_toNew_eq_2, q_C_norm_eq_4, q_C_norm_eq_5, q_C_normRow_eq_1, q_C_normRow_eq_2, q_Option_map_some, q_List_map_cons, q_List_map_nil, q_List_take_succ_cons, q_List_take_zero, q_List_drop_succ_cons, q_List_drop_zero, q_List_nil_append, q_List_cons_append, q_List_length_cons, q_List_length_nil, true_and, if_true, and_self, List.append_nil, List.nodup_nil, Nat.reduceAdd, Nat.reduceLeDiff, Nat.reduceLT, Nat.reduceBEq, Nat.zero_add, Nat.le_refl, norm_lst, normRows_Ce, lookT_here, lookT_next, lookO_here]
      exact fin hS (encCV_eq (a := ⟨_, _⟩) (by rw [hv, if_pos (by omega)]; rfl))
end Go.Abs


set_option maxRecDepth 100000
set_option maxHeartbeats 4000000
namespace Go.Abs
open Go.Proofs
theorem wrapu_in {n : Int} (h1 : 0 ≤ n) (h2 : n < 18446744073709551616) : IntKind.u64.wrap n = n := by
  have : IntKind.u64.wrap n = n % 18446744073709551616 := rfl
  rw [this]; omega
theorem and32 (a : Nat) (h : a < 18446744073709551616) : IntKind.u64.wrap (((BitVec.ofInt IntKind.u64.bits (a : Int) &&& BitVec.ofInt IntKind.u64.bits 4294967295).toNat : Nat) : Int) = ((a % 4294967296 : Nat) : Int) := by
  have e : (BitVec.ofInt IntKind.u64.bits (a : Int) &&& BitVec.ofInt IntKind.u64.bits 4294967295).toNat = a % 4294967296 := by
    show (BitVec.ofInt 64 (a : Int) &&& BitVec.ofInt 64 4294967295).toNat = _
    rw [BitVec.toNat_and]
    have e1 : (BitVec.ofInt 64 (a : Int)).toNat = a := by
      rw [BitVec.toNat_ofInt]; omega
    have e2 : (BitVec.ofInt 64 4294967295).toNat = 2 ^ 32 - 1 := by rfl
    rw [e1, e2, Nat.and_two_pow_sub_one_eq_mod]
  rw [e]
  exact wrapu_in (by omega) (by omega)
theorem shr32 (a : Nat) : (a : Int).fdiv (2 ^ (min (Int.toNat 32) IntKind.u64.bits)) = ((a / 4294967296 : Nat) : Int) := by
  show (a : Int).fdiv 4294967296 = _
  rw [Int.fdiv_eq_ediv_of_nonneg _ (by omega)]; omega
theorem s108 (x y : Nat) (hx : x < 4398046511104) (hy : y < 4398046511104) : Spec Try.prog 108 [.int .u64 x, .int .u64 y] (fun r => r = .tup [.int .u64 ((x * y / 18446744073709551616 : Nat) : Int), .int .u64 ((x * y % 18446744073709551616 : Nat) : Int)]) := by
  refine Spec.of_awlS hf108 okf108 (by simp) fun S hS => ?_
  simp only [q_wpLs_eq_1, q_wpLs_eq_2, q_wpL_eq_1, q_exL_eq_1, q_exL_eq_11, q_look_eq_1, q_look_eq_2, q_lookO_eq_1, q_insT_eq_1, q_awl_eq_2, q_awl_eq_5, q_awl_eq_10, q_AE_thenL_eq_1, q_initT_eq_1, q_initT_eq_2, q_putK_eq_1, q_vBin_eq_1, q_resV_eq_1, q_binV_eq_1, q_binInt_eq_2, q_binInt_eq_3, q_cutInt_eq_1, q_cutInt_eq_3, q_cutInt_eq_12, q_mapT_eq_1, q_mapT_eq_2, q_mapO_eq_1, q_endK_eq_2, q_endL_eq_1, q_endV_eq_1, q_resL_eq_1, q_resL_eq_2, q_resX_eq_1, q_one_eq_2, q_V_nrm_eq_1, q_K_nrm_eq_1, q_V_owns_eq_1, q_V_owns_eq_3, q_K_owns_eq_2, q_V_ownsL_eq_1, q_V_ownsL_eq_2, q_V_toNew_eq_1, q_V_toNew_eq_4, q_K_toNew_eq_1, q_V_toNewL_eq_1, q_V_toNewL_eq_2, q_C_norm_eq_4, true_and, if_true, and_self, List.append_nil, List.nodup_nil, Nat.reduceAdd, Nat.reduceBEq, Nat.zero_add, lookT_here, lookT_next, Int.reduceLE, Int.reduceToNat, uf108, uf108r1, uf108b2, uf108r3, uf108b4, uf108r5, uf108b6, uf108r7, uf108b8, uf108r9, uf108b10, uf108r11, uf108b12, uf108r13, uf108b14, uf108r15, uf108b16, uf108r17, uf108b18, uf108r19, uf108b20, uf108r21, uf108b22, uf108r23, uf108b24]
  have hx1 : x / 4294967296 < 1024 := by omega
  have hy1 : y / 4294967296 < 1024 := by omega
  have hx0 : x % 4294967296 < 4294967296 := by omega
  have hy0 : y % 4294967296 < 4294967296 := by omega
  have hxe : x = x / 4294967296 * 4294967296 + x % 4294967296 := by omega
  have hye : y = y / 4294967296 * 4294967296 + y % 4294967296 := by omega
  have a1 := and32 x (by omega)
  have a2 := and32 y (by omega)
  have a3 := shr32 x
  have a4 := shr32 y
  have hxy : IntKind.u64.wrap ((x : Int) * (y : Int)) = ((x * y % 18446744073709551616 : Nat) : Int) := by
    have : IntKind.u64.wrap ((x : Int) * (y : Int)) = ((x : Int) * (y : Int)) % 18446744073709551616 := rfl
    rw [this]; simp
  simp only [Int.reduceToNat] at a3 a4
  have prod : x * y = x / 4294967296 * (y / 4294967296) * 18446744073709551616 + (x / 4294967296 * (y % 4294967296) + x % 4294967296 * (y / 4294967296)) * 4294967296 + x % 4294967296 * (y % 4294967296) := by
    conv => lhs; rw [hxe, hye]
    generalize x / 4294967296 = p
    generalize x % 4294967296 = q
    generalize y / 4294967296 = r
    generalize y % 4294967296 = s
    rw [Nat.add_mul, Nat.mul_add, Nat.mul_add, Nat.add_mul]
    have h1 : p * 4294967296 * (r * 4294967296) = p * r * 18446744073709551616 := by
      rw [Nat.mul_mul_mul_comm]
    have h2 : p * 4294967296 * s = p * s * 4294967296 := by rw [Nat.mul_right_comm]
    have h3 : q * (r * 4294967296) = q * r * 4294967296 := by rw [Nat.mul_assoc]
    rw [h1, h2, h3]
    omega
  have A : x % 4294967296 * (y % 4294967296) < 18446744073709551616 := Nat.lt_of_lt_of_le (Nat.mul_lt_mul'' hx0 hy0) (by decide)
  have B : x / 4294967296 * (y % 4294967296) < 4398046511104 := Nat.lt_of_lt_of_le (Nat.mul_lt_mul'' hx1 hy0) (by decide)
  have C : x % 4294967296 * (y / 4294967296) < 4398046511104 := Nat.lt_of_lt_of_le (Nat.mul_lt_mul'' hx0 hy1) (by decide)
  have D : x / 4294967296 * (y / 4294967296) < 1048576 := Nat.lt_of_lt_of_le (Nat.mul_lt_mul'' hx1 hy1) (by decide)
  have wN : ∀ n : Nat, n < 18446744073709551616 → IntKind.u64.wrap (n : Int) = n := fun n h => wrapu_in (by omega) (by omega)
  simp only [a1, a2, a3, a4, hxy]
  rw [prod]
  generalize x / 4294967296 = p at *
  generalize x % 4294967296 = q at *
  generalize y / 4294967296 = r at *
  generalize y % 4294967296 = s at *
  have e1 : IntKind.u64.wrap ((q : Int) * (s : Int)) = ((q * s : Nat) : Int) := by rw [← Int.natCast_mul]; exact wN _ A
  have e2 : IntKind.u64.wrap ((p : Int) * (s : Int)) = ((p * s : Nat) : Int) := by rw [← Int.natCast_mul]; exact wN _ (by omega)
  have e6 : IntKind.u64.wrap ((q : Int) * (r : Int)) = ((q * r : Nat) : Int) := by rw [← Int.natCast_mul]; exact wN _ (by omega)
  have e10 : IntKind.u64.wrap ((p : Int) * (r : Int)) = ((p * r : Nat) : Int) := by rw [← Int.natCast_mul]; exact wN _ (by omega)
  simp only [e1, e2, e6, e10]
  clear e1 e2 e6 e10 a1 a2 a3 a4 hxy
  have shr : ∀ n : Nat, (n : Int).fdiv (2 ^ min 32 IntKind.u64.bits) = ((n / 4294967296 : Nat) : Int) := fun n => shr32 n
  generalize q * s = A' at *
  generalize p * s = B' at *
  generalize q * r = C' at *
  generalize p * r = D' at *
  have e4 : IntKind.u64.wrap ((B' : Int) + ((A' / 4294967296 : Nat) : Int)) = ((B' + A' / 4294967296 : Nat) : Int) := by rw [← Int.natCast_add]; exact wN _ (by omega)
  simp only [shr, e4]
  have a5 := and32 (B' + A' / 4294967296) (by omega)
  simp only [a5]
  have e7 : IntKind.u64.wrap ((((B' + A' / 4294967296) % 4294967296 : Nat) : Int) + (C' : Int)) = (((B' + A' / 4294967296) % 4294967296 + C' : Nat) : Int) := by rw [← Int.natCast_add]; exact wN _ (by omega)
  simp only [e7, shr]
  have e8 : IntKind.u64.wrap ((D' : Int) + (((B' + A' / 4294967296) / 4294967296 : Nat) : Int)) = ((D' + (B' + A' / 4294967296) / 4294967296 : Nat) : Int) := by rw [← Int.natCast_add]; exact wN _ (by omega)
  simp only [e8]
  have e9 : IntKind.u64.wrap (((D' + (B' + A' / 4294967296) / 4294967296 : Nat) : Int) + ((((B' + A' / 4294967296) % 4294967296 + C') / 4294967296 : Nat) : Int)) = ((D' + (B' + A' / 4294967296) / 4294967296 + ((B' + A' / 4294967296) % 4294967296 + C') / 4294967296 : Nat) : Int) := by rw [← Int.natCast_add]; exact wN _ (by omega)
  simp only [e9]
  rw [prod] at hS
  refine fin hS ?_
  have e : D' + (B' + A' / 4294967296) / 4294967296 + ((B' + A' / 4294967296) % 4294967296 + C') / 4294967296 = (D' * 18446744073709551616 + (B' + C') * 4294967296 + A') / 18446744073709551616 := by omega
  rw [e]
theorem times_pos {a b : Int} (h : decide (a < 0) = decide (b < 0)) : times a b = min ((a.natAbs * b.natAbs : Nat) : Int) 1099511627776 := by
  have e : a * b = ((a.natAbs * b.natAbs : Nat) : Int) := by
    rw [Int.natCast_mul]
    by_cases ha : a < 0
    · have hb : b < 0 := by simpa [ha] using h
      have e1 : -a = (a.natAbs : Int) := by omega
      have e2 : -b = (b.natAbs : Int) := by omega
      rw [← Int.neg_mul_neg, e1, e2]
    · have hb : ¬ b < 0 := by simpa [ha] using h
      have e1 : a = (a.natAbs : Int) := by omega
      have e2 : b = (b.natAbs : Int) := by omega
      rw [← e1, ← e2]
  rw [times, e, cut]; omega
theorem times_neg {a b : Int} (h : ¬ decide (a < 0) = decide (b < 0)) : times a b = - min ((a.natAbs * b.natAbs : Nat) : Int) 1099511627776 := by
  have e : a * b = - ((a.natAbs * b.natAbs : Nat) : Int) := by
    rw [Int.natCast_mul]
    by_cases ha : a < 0
    · have hb : ¬ b < 0 := by simpa [ha] using h
      have e1 : a = -(a.natAbs : Int) := by omega
      have e2 : b = (b.natAbs : Int) := by omega
      rw [← Int.neg_mul, ← e1, ← e2]
    · have hb : b < 0 := by
        by_cases hb : b < 0
        · exact hb
        · simp [ha, hb] at h
      have e1 : a = (a.natAbs : Int) := by omega
      have e2 : b = -(b.natAbs : Int) := by omega
      rw [← Int.mul_neg, ← e1, ← e2]
  rw [times, e, cut]; omega
theorem fin_int {S : V → Prop} {x y : Int} (h : S (.int .i64 x)) (e : y = x) : S (.k (.c (.int .i64 y))) := e ▸ h
theorem s106 (a b : Int) (ha : -1099511627776 ≤ a ∧ a ≤ 1099511627776) (hb : -1099511627776 ≤ b ∧ b ≤ 1099511627776) : Spec Try.prog 106 [.int .i64 a, .int .i64 b] (fun r => r = .int .i64 (times a b)) := by
  refine Spec.of_awlS hf106 okf106 (by simp) fun S hS => ?_
  have n1 : IntKind.i64.wrap (0 - a) = -a := by rw [wrap_in (by omega) (by omega)]; omega
  have n2 : IntKind.i64.wrap (0 - b) = -b := by rw [wrap_in (by omega) (by omega)]; omega
  have m1 : (if -a > a then -a else a) = (a.natAbs : Int) := by split <;> omega
  have m2 : (if -b > b then -b else b) = (b.natAbs : Int) := by split <;> omega
  have u1 : IntKind.u64.wrap (a.natAbs : Int) = a.natAbs := wrapu_in (by omega) (by omega)
  have u2 : IntKind.u64.wrap (b.natAbs : Int) = b.natAbs := wrapu_in (by omega) (by omega)
  simp only [n1, n2, m1, m2, u1, u2, q_wpLs_eq_1, q_wpLs_eq_2, q_wpL_eq_1, q_exL_eq_1, q_exL_eq_15, q_exL_eq_16, q_exL_eq_28, q_exL_eq_34, q_look_eq_1, q_look_eq_2, q_insT_eq_1, q_awl_eq_2, q_awl_eq_5, q_AE_thenL_eq_1, q_initT_eq_1, q_initT_eq_2, q_putK_eq_1, q_vUn_eq_1, q_unV_eq_1, q_mapC_eq_1, q_vConv_eq_1, q_vInts_eq_1, q_vInts_eq_2, q_foldV_eq_1, q_vMinmax_eq_1, q_minmaxI_eq_1, q_Option_map_some, q_List_map_cons, q_List_map_nil, q_List_foldl_cons, q_List_foldl_nil, true_and, if_true, Nat.reduceAdd, Nat.reduceBEq, Nat.zero_add, lookT_here, lookT_next, uf106, uf106r16, uf106b17, uf106r18, uf106b19]
  refine call_s (s108 a.natAbs b.natAbs (by omega) (by omega)) ?_
  simp only [q_wpLs_eq_1, q_wpLs_eq_2, q_wpL_eq_1, q_putDL_eq_1, q_AOp_dst_eq_1, q_AOp_dst_eq_10, q_exL_eq_1, q_exL_eq_3, q_exL_eq_11, q_exL_eq_12, q_exL_eq_15, q_exL_eq_16, q_exL_eq_27, q_look_eq_1, q_look_eq_2, q_lookO_eq_1, q_insT_eq_1, q_awl_eq_1, q_awl_eq_2, q_awl_eq_5, q_awl_eq_6, q_awl_eq_10, q_AE_thenL_eq_1, q_AE_thenL_eq_3, q_putK_eq_1, q_vBin_eq_1, q_resV_eq_1, q_binV_eq_1, q_binInt_eq_3, q_cutInt_eq_6, q_cutInt_eq_8, q_vBinB_eq_1, q_vUn_eq_1, q_unV_eq_1, q_mapC_eq_1, q_vConv_eq_1, q_vExtr_eq_1, q_vPick_eq_1, q_vPick_eq_3, q_mapT_eq_1, q_mapT_eq_2, q_mapO_eq_1, q_endK_eq_2, q_endL_eq_1, q_endV_eq_1, q_resL_eq_1, q_resL_eq_2, q_resX_eq_1, q_one_eq_1, q_V_nrm_eq_1, q_V_nrm_eq_4, q_V_nrm_eq_5, q_K_nrm_eq_1, q_V_nrmL_eq_1, q_V_nrmL_eq_2, q_V_owns_eq_1, q_K_owns_eq_2, q_V_toNew_eq_1, q_K_toNew_eq_1, q_C_norm_eq_4, q_C_norm_eq_5, q_Bool_not_true, q_List_getElemQ_cons_zero, q_List_getElemQ_cons_succ, true_and, if_true, and_self, Int.reduceNeg, List.nodup_nil, Nat.reduceBEq, q_learn_eq_1, q_guardP_eq_1, q_condK_eq_1, q_condB_eq_1, q_condB_eq_2, q_exK_eq_1, condB_decide, condB_beq, condB_not, lookT_here, lookT_next, Int.reduceSub, uf106r1, uf106b2, uf106r3, uf106b4, uf106b5, uf106r6, uf106b7, uf106b8, uf106r9, uf106b10, uf106r11, uf106b12, uf106b13, uf106r14, uf106b15]
  have hbd : a.natAbs * b.natAbs ≤ 1099511627776 * 1099511627776 := Nat.mul_le_mul (by omega) (by omega)
  generalize hp : a.natAbs * b.natAbs = p at *
  repeat' (first | with_reducible refine And.intro ?_ ?_ | with_reducible intro _)
  all_goals
    rename_i h
    refine fin_int hS ?_
    first
      | (rw [times_pos h, hp]; (try rw [wrap_in (by omega) (by omega)]); omega)
      | (rw [times_neg h, hp]; (try rw [wrap_in (n := ((p % 18446744073709551616 : Nat) : Int)) (by omega) (by omega)]); (try rw [wrap_in (by omega) (by omega)]); omega)
theorem s99 (a b : Int) (ha : -1099511627776 ≤ a ∧ a ≤ 1099511627776) (hb : -1099511627776 ≤ b ∧ b ≤ 1099511627776) : Spec Try.prog 99 [.int .i64 a, .int .i64 b] (fun r => r = .int .i64 (times a b)) := by
  refine Spec.of_awlS hf99 okf99 (by simp) fun S hS => ?_
  have n1 : IntKind.i64.wrap (0 - a) = -a := by rw [wrap_in (by omega) (by omega)]; omega
  have n2 : IntKind.i64.wrap (0 - b) = -b := by rw [wrap_in (by omega) (by omega)]; omega
  have m1 : (if -a > a then -a else a) = (a.natAbs : Int) := by split <;> omega
  have m2 : (if -b > b then -b else b) = (b.natAbs : Int) := by split <;> omega
  simp only [n1, n2, m1, m2, q_wpLs_eq_1, q_wpLs_eq_2, q_wpL_eq_1, q_putDL_eq_1, q_AOp_dst_eq_1, q_AOp_dst_eq_10, q_exL_eq_1, q_exL_eq_3, q_exL_eq_11, q_exL_eq_12, q_exL_eq_15, q_exL_eq_34, q_look_eq_1, q_look_eq_2, q_lookO_eq_1, q_insT_eq_1, q_awl_eq_1, q_awl_eq_2, q_awl_eq_5, q_awl_eq_6, q_awl_eq_10, q_AE_thenL_eq_1, q_AE_thenL_eq_3, q_initT_eq_1, q_initT_eq_2, q_putK_eq_1, q_vBin_eq_1, q_resV_eq_1, q_binV_eq_1, q_binInt_eq_3, q_cutInt_eq_3, q_cutInt_eq_4, q_cutInt_eq_6, q_cutInt_eq_8, q_cutInt_eq_10, q_vBinB_eq_1, q_vUn_eq_1, q_unV_eq_1, q_mapC_eq_1, q_vPick_eq_1, q_vPick_eq_2, q_vInts_eq_1, q_vInts_eq_2, q_foldV_eq_1, q_vMinmax_eq_1, q_minmaxI_eq_1, q_mapT_eq_1, q_mapT_eq_2, q_mapO_eq_1, q_endK_eq_2, q_endL_eq_1, q_endV_eq_1, q_resL_eq_1, q_resL_eq_2, q_resX_eq_1, q_one_eq_1, q_V_nrm_eq_1, q_V_nrm_eq_5, q_K_nrm_eq_1, q_V_owns_eq_1, q_K_owns_eq_2, q_V_toNew_eq_1, q_K_toNew_eq_1, q_C_norm_eq_4, q_C_norm_eq_5, q_Bool_not_false, q_Option_map_some, q_List_map_cons, q_List_map_nil, q_List_foldl_cons, q_List_foldl_nil, true_and, if_true, if_false, Bool.false_eq_true, and_self, ne_eq, Int.reduceNeg, List.nodup_nil, Nat.reduceAdd, Nat.reduceBEq, Nat.zero_add, q_learn_eq_1, q_guardP_eq_2, q_condK_eq_1, q_condB_eq_1, q_condB_eq_2, q_exK_eq_1, condB_decide, condB_beq, condB_not, lookT_here, lookT_next, Int.reduceSub, uf99, uf99r1, uf99b2, uf99r3, uf99b4, uf99b5, uf99r6, uf99b7, uf99b8, uf99r9, uf99r10, uf99b11, uf99b12, uf99r13, uf99b14, uf99b15, uf99r16, uf99b17, uf99r18, uf99b19, uf99r20, uf99b21, uf99b22, uf99r23, uf99b24, uf99b25, uf99r26, uf99b27]
  repeat' (first | with_reducible refine And.intro ?_ ?_ | with_reducible intro _)
  · rename_i h; subst h; exact fin_int hS (by rw [times, Int.zero_mul]; rfl)
  · rename_i h; subst h; exact fin_int hS (by rw [times, Int.mul_zero]; rfl)
  · omega
  all_goals
    rename_i hb0 hq h
    have hk : 0 < b.natAbs := by omega
    have ht : IntKind.i64.wrap (Int.tdiv 1099511627776 (b.natAbs : Int)) = ((1099511627776 / b.natAbs : Nat) : Int) := by
      have e : Int.tdiv 1099511627776 (b.natAbs : Int) = ((1099511627776 / b.natAbs : Nat) : Int) := rfl
      have hle : 1099511627776 / b.natAbs ≤ 1099511627776 := Nat.div_le_self _ _
      rw [e]
      generalize 1099511627776 / b.natAbs = q at *
      exact wrap_in (by omega) (by omega)
    rw [ht] at hq
    have hiff := Nat.div_lt_iff_lt_mul (x := 1099511627776) (y := a.natAbs) hk
    have hbd : a.natAbs * b.natAbs ≤ 1099511627776 * 1099511627776 := Nat.mul_le_mul (by omega) (by omega)
    have hq2 : (1099511627776 / b.natAbs < a.natAbs) ↔ ((a.natAbs : Int) > ((1099511627776 / b.natAbs : Nat) : Int)) := by omega
    rw [hiff] at hq2
    rw [← hq2] at hq
    clear hq2 hiff ht
    refine fin_int hS ?_
  · rw [times_pos h, wrap_in (by omega) (by omega)]; omega
  · rw [times_neg h, wrap_in (n := -1099511627776) (by omega) (by omega), wrap_in (by omega) (by omega)]; omega
  · rw [times_pos h, ← Int.natCast_mul]
    generalize a.natAbs * b.natAbs = p at *
    rw [wrap_in (by omega) (by omega)]; omega
  · rw [times_neg h, wrap_in (n := 0 - (a.natAbs : Int)) (by omega) (by omega)]
    have e : (0 - (a.natAbs : Int)) * (b.natAbs : Int) = - ((a.natAbs * b.natAbs : Nat) : Int) := by rw [Int.zero_sub, Int.neg_mul, Int.natCast_mul]
    rw [e]
    generalize a.natAbs * b.natAbs = p at *
    rw [wrap_in (by omega) (by omega)]; omega
def inN (n : Int) : Prop := -1099511627776 ≤ n ∧ n ≤ 1099511627776
theorem s81 (op a b : Int) (ha : inN a) (hb : inN b) : Spec Try.prog 81 [.int .i64 op, .int .i64 a, .int .i64 b] (fun r => r = encCV (number op a b)) := by
  refine Spec.of_awlS hf81 okf81 (by simp) fun S hS => ?_
  obtain ⟨a1, a2⟩ := ha
  obtain ⟨b1, b2⟩ := hb
  have w1 : IntKind.i64.wrap (a + b) = a + b := wrap_in (by omega) (by omega)
  have w2 : IntKind.i64.wrap (a - b) = a - b := wrap_in (by omega) (by omega)
  simp only [w1, w2, q_wpLs_eq_1, q_wpLs_eq_2, q_wpL_eq_1, q_exL_eq_1, q_exL_eq_4, q_exL_eq_6, q_exL_eq_9, q_exL_eq_11, q_exL_eq_28, q_exL_eq_34, q_look_eq_1, q_look_eq_2, q_insT_eq_1, q_insO_eq_1, q_awl_eq_1, q_awl_eq_2, q_awl_eq_5, q_awl_eq_6, q_awl_eq_7, q_awl_eq_10, q_AE_thenL_eq_1, q_AE_thenL_eq_3, q_AE_inBlockL_eq_1, q_AE_inBlockL_eq_3, q_initT_eq_1, q_initT_eq_2, q_putK_eq_1, q_vBin_eq_1, q_resV_eq_1, q_binV_eq_1, q_binInt_eq_3, q_cutInt_eq_1, q_cutInt_eq_2, q_cutInt_eq_6, q_cutInt_eq_8, q_vBuild_eq_1, q_vBuild_eq_2, q_rowV_eq_1, q_vInts_eq_1, q_vInts_eq_2, q_foldV_eq_1, q_vMinmax_eq_1, q_minmaxI_eq_1, q_ofRow_eq_2, q_pureRow_eq_1, q_pureRow_eq_2, q_V_cells_eq_1, q_V_cells_eq_2, q_splice_eq_1, q_stVarK_eq_1, q_storeK_eq_1, q_mapT_eq_1, q_mapT_eq_2, q_mapO_eq_1, q_mapO_eq_2, q_freeB_eq_1, q_freeT_eq_1, q_freeT_eq_2, q_freeO_eq_1, q_V_noRef_eq_1, q_K_noRef_eq_1, q_endK_eq_2, q_endL_eq_1, q_endV_eq_1, q_resL_eq_1, q_resL_eq_2, q_resX_eq_2, q_resCell_eq_1, q_one_eq_1, q_V_nrm_eq_1, q_V_nrm_eq_2, q_K_nrm_eq_1, q_K_nrm_eq_3, q_O_nrm_eq_1, q_V_owns_eq_4, q_V_toNew_eq_2, q_C_norm_eq_4, q_C_norm_eq_5, q_C_normRow_eq_1, q_C_normRow_eq_2, q_Option_map_some, q_List_map_cons, q_List_map_nil, q_List_take_succ_cons, q_List_take_zero, q_List_drop_succ_cons, q_List_drop_zero, q_List_nil_append, q_List_cons_append, q_List_foldl_cons, q_List_foldl_nil, q_List_length_cons, q_List_length_nil, true_and, if_true, if_false, Bool.false_eq_true, and_self, Bool.and_true, Bool.or_true, List.append_nil, List.nodup_nil, Nat.reduceAdd, Nat.reduceLeDiff, Nat.reduceLT, Nat.reduceBEq, Nat.zero_add, Nat.le_refl, q_learn_eq_1, q_condK_eq_1, condB_beq, lookT_here, lookT_next, lookO_here, uf81, uf81r1, uf81b2, uf81r3, uf81b4, uf81r5, uf81b6, uf81r7, uf81b8, uf81r9, uf81b10, uf81r11, uf81b12, uf81r13, uf81b14, uf81b15, uf81r16, uf81b17, uf81b18, uf81r19, uf81b20, uf81b21, uf81r22, uf81b23, uf81b24, uf81r25, uf81b26, uf81b27, uf81r28, uf81b29, uf81b30, uf81r31, uf81b32, uf81b33, uf81r34, uf81b35, uf81b36, uf81r37, uf81b38]
  repeat' (first | with_reducible refine And.intro ?_ ?_ | with_reducible intro _)
  · refine call_r (s98 (decide (a < b))) ?_
    simp only [encCV, encCell, q_wpLs_eq_1, q_wpLs_eq_2, q_wpL_eq_1, q_exL_eq_9, q_look_eq_1, q_insT_eq_1, q_insO_eq_1, q_awl_eq_10, q_AE_thenL_eq_3, q_AE_inBlockL_eq_3, q_ofRow_eq_2, q_pureRow_eq_1, q_pureRow_eq_2, q_V_cells_eq_2, q_splice_eq_1, q_stVarK_eq_1, q_storeK_eq_1, q_mapT_eq_1, q_mapT_eq_2, q_mapO_eq_1, q_mapO_eq_2, q_endK_eq_2, q_endL_eq_1, q_endV_eq_1, q_resL_eq_1, q_resL_eq_2, q_resX_eq_2, q_resCell_eq_1, q_one_eq_1, q_V_nrm_eq_1, q_V_nrm_eq_2, q_K_nrm_eq_1, q_K_nrm_eq_3, q_O_nrm_eq_1, q_V_owns_eq_4, q_V_toNew_eq_2, q_C_norm_eq_4, q_C_norm_eq_5, q_C_normRow_eq_1, q_C_normRow_eq_2, q_regN_eq_2, q_V_reg_eq_4, q_freesL_eq_1, q_addsL_eq_1, q_regK_eq_1, q_retK_eq_2, q_Option_map_some, q_List_map_cons, q_List_map_nil, q_List_take_succ_cons, q_List_take_zero, q_List_drop_succ_cons, q_List_drop_zero, q_List_nil_append, q_List_length_cons, q_List_length_nil, true_and, if_true, and_self, List.append_nil, List.nodup_nil, Nat.reduceAdd, Nat.reduceMul, Nat.reduceLT, Nat.reduceBEq, Nat.zero_add, Nat.le_refl, lookT_here, lookT_next, lookO_here]
    refine fin hS (encCV_eq (a := yes (decide (a < b))) ?_)
    simp_all [number]
  · refine call_r (s98 (a == b)) ?_
    simp only [encCV, encCell, q_wpLs_eq_1, q_wpLs_eq_2, q_wpL_eq_1, q_exL_eq_9, q_look_eq_1, q_insT_eq_1, q_insO_eq_1, q_awl_eq_10, q_AE_thenL_eq_3, q_AE_inBlockL_eq_3, q_ofRow_eq_2, q_pureRow_eq_1, q_pureRow_eq_2, q_V_cells_eq_2, q_splice_eq_1, q_stVarK_eq_1, q_storeK_eq_1, q_mapT_eq_1, q_mapT_eq_2, q_mapO_eq_1, q_mapO_eq_2, q_endK_eq_2, q_endL_eq_1, q_endV_eq_1, q_resL_eq_1, q_resL_eq_2, q_resX_eq_2, q_resCell_eq_1, q_one_eq_1, q_V_nrm_eq_1, q_V_nrm_eq_2, q_K_nrm_eq_1, q_K_nrm_eq_3, q_O_nrm_eq_1, q_V_owns_eq_4, q_V_toNew_eq_2, q_C_norm_eq_4, q_C_norm_eq_5, q_C_normRow_eq_1, q_C_normRow_eq_2, q_regN_eq_2, q_V_reg_eq_4, q_freesL_eq_1, q_addsL_eq_1, q_regK_eq_1, q_retK_eq_2, q_Option_map_some, q_List_map_cons, q_List_map_nil, q_List_take_succ_cons, q_List_take_zero, q_List_drop_succ_cons, q_List_drop_zero, q_List_nil_append, q_List_length_cons, q_List_length_nil, true_and, if_true, and_self, List.append_nil, List.nodup_nil, Nat.reduceAdd, Nat.reduceMul, Nat.reduceLT, Nat.reduceBEq, Nat.zero_add, Nat.le_refl, lookT_here, lookT_next, lookO_here]
    refine fin hS (encCV_eq (a := yes (a == b)) ?_)
    have e : (a == b) = decide (a = b) := by by_cases h : a = b <;> simp [h]
    simp_all [number]
  · refine call_s (s97 (a + b)) ?_
    simp only [q_wpLs_eq_1, q_wpLs_eq_2, q_wpL_eq_1, q_exL_eq_6, q_exL_eq_9, q_look_eq_1, q_look_eq_2, q_insT_eq_1, q_insO_eq_1, q_awl_eq_10, q_AE_thenL_eq_3, q_AE_inBlockL_eq_3, q_putK_eq_1, q_vBuild_eq_1, q_vBuild_eq_2, q_rowV_eq_1, q_ofRow_eq_2, q_pureRow_eq_1, q_pureRow_eq_2, q_V_cells_eq_1, q_V_cells_eq_2, q_splice_eq_1, q_stVarK_eq_1, q_storeK_eq_1, q_mapT_eq_1, q_mapT_eq_2, q_mapO_eq_1, q_mapO_eq_2, q_endK_eq_2, q_endL_eq_1, q_endV_eq_1, q_resL_eq_1, q_resL_eq_2, q_resX_eq_2, q_resCell_eq_1, q_one_eq_1, q_V_nrm_eq_1, q_V_nrm_eq_2, q_K_nrm_eq_1, q_K_nrm_eq_3, q_O_nrm_eq_1, q_V_owns_eq_4, q_V_toNew_eq_2, q_C_norm_eq_4, q_C_norm_eq_5, q_C_normRow_eq_1, q_C_normRow_eq_2, q_Option_map_some, q_List_map_cons, q_List_map_nil, q_List_take_succ_cons, q_List_take_zero, q_List_drop_succ_cons, q_List_drop_zero, q_List_nil_append, q_List_cons_append, q_List_length_cons, q_List_length_nil, true_and, if_true, and_self, List.append_nil, List.nodup_nil, Nat.reduceAdd, Nat.reduceLeDiff, Nat.reduceLT, Nat.reduceBEq, Nat.zero_add, Nat.le_refl, lookT_here, lookT_next, lookO_here]
    refine fin_cell hS ?_
    simp_all [number]
  · refine call_s (s97 (a - b)) ?_
    simp only [q_wpLs_eq_1, q_wpLs_eq_2, q_wpL_eq_1, q_exL_eq_6, q_exL_eq_9, q_look_eq_1, q_look_eq_2, q_insT_eq_1, q_insO_eq_1, q_awl_eq_10, q_AE_thenL_eq_3, q_AE_inBlockL_eq_3, q_putK_eq_1, q_vBuild_eq_1, q_vBuild_eq_2, q_rowV_eq_1, q_ofRow_eq_2, q_pureRow_eq_1, q_pureRow_eq_2, q_V_cells_eq_1, q_V_cells_eq_2, q_splice_eq_1, q_stVarK_eq_1, q_storeK_eq_1, q_mapT_eq_1, q_mapT_eq_2, q_mapO_eq_1, q_mapO_eq_2, q_endK_eq_2, q_endL_eq_1, q_endV_eq_1, q_resL_eq_1, q_resL_eq_2, q_resX_eq_2, q_resCell_eq_1, q_one_eq_1, q_V_nrm_eq_1, q_V_nrm_eq_2, q_K_nrm_eq_1, q_K_nrm_eq_3, q_O_nrm_eq_1, q_V_owns_eq_4, q_V_toNew_eq_2, q_C_norm_eq_4, q_C_norm_eq_5, q_C_normRow_eq_1, q_C_normRow_eq_2, q_Option_map_some, q_List_map_cons, q_List_map_nil, q_List_take_succ_cons, q_List_take_zero, q_List_drop_succ_cons, q_List_drop_zero, q_List_nil_append, q_List_cons_append, q_List_length_cons, q_List_length_nil, true_and, if_true, and_self, List.append_nil, List.nodup_nil, Nat.reduceAdd, Nat.reduceLeDiff, Nat.reduceLT, Nat.reduceBEq, Nat.zero_add, Nat.le_refl, lookT_here, lookT_next, lookO_here]
    refine fin_cell hS ?_
    simp_all [number]
  · refine call_s (s99 a b ⟨a1, a2⟩ ⟨b1, b2⟩) ?_
    simp only [q_wpLs_eq_1, q_wpLs_eq_2, q_wpL_eq_1, q_exL_eq_6, q_exL_eq_9, q_look_eq_1, q_look_eq_2, q_insT_eq_1, q_insO_eq_1, q_awl_eq_10, q_AE_thenL_eq_3, q_AE_inBlockL_eq_3, q_putK_eq_1, q_vBuild_eq_1, q_vBuild_eq_2, q_rowV_eq_1, q_ofRow_eq_2, q_pureRow_eq_1, q_pureRow_eq_2, q_V_cells_eq_1, q_V_cells_eq_2, q_splice_eq_1, q_stVarK_eq_1, q_storeK_eq_1, q_mapT_eq_1, q_mapT_eq_2, q_mapO_eq_1, q_mapO_eq_2, q_endK_eq_2, q_endL_eq_1, q_endV_eq_1, q_resL_eq_1, q_resL_eq_2, q_resX_eq_2, q_resCell_eq_1, q_one_eq_1, q_V_nrm_eq_1, q_V_nrm_eq_2, q_K_nrm_eq_1, q_K_nrm_eq_3, q_O_nrm_eq_1, q_V_owns_eq_4, q_V_toNew_eq_2, q_C_norm_eq_4, q_C_norm_eq_5, q_C_normRow_eq_1, q_C_normRow_eq_2, q_Option_map_some, q_List_map_cons, q_List_map_nil, q_List_take_succ_cons, q_List_take_zero, q_List_drop_succ_cons, q_List_drop_zero, q_List_nil_append, q_List_cons_append, q_List_length_cons, q_List_length_nil, true_and, if_true, and_self, List.append_nil, List.nodup_nil, Nat.reduceAdd, Nat.reduceLeDiff, Nat.reduceLT, Nat.reduceBEq, Nat.zero_add, Nat.le_refl, lookT_here, lookT_next, lookO_here]
    refine fin_cell hS ?_
    simp_all [number]
  · refine fin_cell hS ?_
    simp_all [number]
    split <;> omega
  · refine fin_cell hS ?_
    simp_all [number]
    split <;> omega
def arith (op a b : Int) : Int := if op = 9 then cut (a + b) else if op = 10 then cut (a - b) else if op = 11 then times a b else if op = 12 then min a b else max a b
theorem s95 (op a b : Int) (ha : inN a) (hb : inN b) : Spec Try.prog 95 [.int .i64 op, .int .i64 a, .int .i64 b] (fun r => r = .int .i64 (arith op a b)) := by
  refine Spec.of_awlS hf95 okf95 (by simp) fun S hS => ?_
  obtain ⟨a1, a2⟩ := ha
  obtain ⟨b1, b2⟩ := hb
  have w1 : IntKind.i64.wrap (a + b) = a + b := wrap_in (by omega) (by omega)
  have w2 : IntKind.i64.wrap (a - b) = a - b := wrap_in (by omega) (by omega)
  simp only [w1, w2, q_wpLs_eq_1, q_wpLs_eq_2, q_wpL_eq_1, q_exL_eq_1, q_exL_eq_11, q_exL_eq_28, q_exL_eq_34, q_look_eq_1, q_look_eq_2, q_lookO_eq_1, q_insT_eq_1, q_awl_eq_1, q_awl_eq_2, q_awl_eq_5, q_awl_eq_6, q_awl_eq_7, q_awl_eq_10, q_AE_thenL_eq_1, q_AE_thenL_eq_3, q_AE_inBlockL_eq_1, q_AE_inBlockL_eq_3, q_initT_eq_1, q_initT_eq_2, q_putK_eq_1, q_vBin_eq_1, q_resV_eq_1, q_binV_eq_1, q_binInt_eq_3, q_cutInt_eq_1, q_cutInt_eq_2, q_cutInt_eq_6, q_vInts_eq_1, q_vInts_eq_2, q_foldV_eq_1, q_vMinmax_eq_1, q_minmaxI_eq_1, q_mapT_eq_1, q_mapT_eq_2, q_mapO_eq_1, q_endK_eq_2, q_endL_eq_1, q_endV_eq_1, q_resL_eq_1, q_resL_eq_2, q_resX_eq_1, q_one_eq_1, q_V_nrm_eq_1, q_K_nrm_eq_1, q_V_owns_eq_1, q_K_owns_eq_2, q_V_toNew_eq_1, q_K_toNew_eq_1, q_C_norm_eq_4, q_C_norm_eq_5, q_Option_map_some, q_List_map_cons, q_List_map_nil, q_List_foldl_cons, q_List_foldl_nil, true_and, if_true, if_false, Bool.false_eq_true, and_self, List.nodup_nil, Nat.reduceAdd, Nat.reduceBEq, Nat.zero_add, q_learn_eq_1, q_condK_eq_1, condB_beq, lookT_here, lookT_next, uf95, uf95r1, uf95b2, uf95r3, uf95b4, uf95r5, uf95b6, uf95r7, uf95b8, uf95r9, uf95b10, uf95b11, uf95r12, uf95b13, uf95b14, uf95r15, uf95b16, uf95b17, uf95r18, uf95b19, uf95b20, uf95r21, uf95b22, uf95b23, uf95r24, uf95b25, uf95b26, uf95r27, uf95b28]
  repeat' (first | with_reducible refine And.intro ?_ ?_ | with_reducible intro _)
  · refine call_s (s93 (a + b)) ?_
    simp only [q_wpLs_eq_1, q_wpLs_eq_2, q_wpL_eq_1, q_exL_eq_1, q_look_eq_1, q_lookO_eq_1, q_insT_eq_1, q_awl_eq_10, q_AE_thenL_eq_3, q_AE_inBlockL_eq_3, q_mapT_eq_1, q_mapT_eq_2, q_mapO_eq_1, q_endK_eq_2, q_endL_eq_1, q_endV_eq_1, q_resL_eq_1, q_resL_eq_2, q_resX_eq_1, q_one_eq_1, q_V_nrm_eq_1, q_K_nrm_eq_1, q_V_owns_eq_1, q_K_owns_eq_2, q_V_toNew_eq_1, q_K_toNew_eq_1, q_C_norm_eq_4, q_C_norm_eq_5, true_and, and_self, List.nodup_nil, lookT_here]
    exact fin_int hS (by simp_all [arith])
  · refine call_s (s93 (a - b)) ?_
    simp only [q_wpLs_eq_1, q_wpLs_eq_2, q_wpL_eq_1, q_exL_eq_1, q_look_eq_1, q_lookO_eq_1, q_insT_eq_1, q_awl_eq_10, q_AE_thenL_eq_3, q_AE_inBlockL_eq_3, q_mapT_eq_1, q_mapT_eq_2, q_mapO_eq_1, q_endK_eq_2, q_endL_eq_1, q_endV_eq_1, q_resL_eq_1, q_resL_eq_2, q_resX_eq_1, q_one_eq_1, q_V_nrm_eq_1, q_K_nrm_eq_1, q_V_owns_eq_1, q_K_owns_eq_2, q_V_toNew_eq_1, q_K_toNew_eq_1, q_C_norm_eq_4, q_C_norm_eq_5, true_and, and_self, List.nodup_nil, lookT_here]
    exact fin_int hS (by simp_all [arith])
  · refine call_s (s106 a b ⟨a1, a2⟩ ⟨b1, b2⟩) ?_
    simp only [q_wpLs_eq_1, q_wpLs_eq_2, q_wpL_eq_1, q_exL_eq_1, q_look_eq_1, q_lookO_eq_1, q_insT_eq_1, q_awl_eq_10, q_AE_thenL_eq_3, q_AE_inBlockL_eq_3, q_mapT_eq_1, q_mapT_eq_2, q_mapO_eq_1, q_endK_eq_2, q_endL_eq_1, q_endV_eq_1, q_resL_eq_1, q_resL_eq_2, q_resX_eq_1, q_one_eq_1, q_V_nrm_eq_1, q_K_nrm_eq_1, q_V_owns_eq_1, q_K_owns_eq_2, q_V_toNew_eq_1, q_K_toNew_eq_1, q_C_norm_eq_4, q_C_norm_eq_5, true_and, and_self, List.nodup_nil, lookT_here]
    exact fin_int hS (by simp_all [arith])
  · exact fin_int hS (by simp_all [arith]; split <;> omega)
  · exact fin_int hS (by simp_all [arith]; split <;> omega)
end Go.Abs


set_option maxRecDepth 100000
set_option maxHeartbeats 4000000
namespace Go.Abs
open Go.Proofs
theorem s77 (op : Int) (l : List Cell) (h1 : 3 ≤ op) (h2 : op ≤ 13) (hl : (l.length : Int) = arity op) (hN : ∀ c ∈ l, inN c.n) (h3 : op = 3 → (l.getD 0 ⟨false, 0⟩).known = true → (l.getD 0 ⟨false, 0⟩).n = 0 ∨ (l.getD 0 ⟨false, 0⟩).n = 1)
    (h6 : op = 6 → (l.getD 0 ⟨false, 0⟩).known = false) : Spec Try.prog 77 [.int .i64 op, lst 2 (l.map encCell)] (fun r => r = encCV (evalN op l)) := by
  have q0 : 0 < l.length := by have : 0 < arity op := by { unfold arity; (repeat' split) <;> omega }; omega
  obtain ⟨k0, n0, e0⟩ : ∃ k n, l[0] = Cell.mk k n := ⟨_, _, rfl⟩
  have g0 : l.getD 0 ⟨false, 0⟩ = ⟨k0, n0⟩ := by simp [List.getD_eq_getElem?_getD, List.getElem?_eq_getElem q0, e0]
  have b0 : inN n0 := by have := hN l[0] (List.getElem_mem q0); rw [e0] at this; exact this
  have i0 : (0 : Int) < l.length := by omega
  refine Spec.of_awlS hf77 okf77 (by simp) fun S hS => ?_
  by_cases c3 : op = 3
  · subst c3
    have h3 := h3 rfl
    rw [g0] at h3
    cases k0
    · simp only [i0, cell_at q0, e0, q_wpLs_eq_1, q_wpLs_eq_2, q_wpL_eq_1, q_exL_eq_1, q_exL_eq_4, q_exL_eq_6, q_exL_eq_8, q_exL_eq_9, q_exL_eq_11, q_exL_eq_21, q_exL_eq_23, q_look_eq_1, q_look_eq_2, q_insT_eq_1, q_insO_eq_1, q_awl_eq_1, q_awl_eq_2, q_awl_eq_5, q_awl_eq_6, q_awl_eq_7, q_awl_eq_10, q_AE_thenL_eq_1, q_AE_thenL_eq_3, q_AE_inBlockL_eq_3, q_initT_eq_1, q_initT_eq_2, q_putK_eq_1, q_vBin_eq_1, q_resV_eq_1, q_binV_eq_1, q_binInt_eq_3, q_cutInt_eq_6, q_vFaddr_eq_3, q_partV_eq_2, q_vLoad_eq_2, q_vBuild_eq_1, q_rowV_eq_1, q_ofRow_eq_2, q_pureRow_eq_1, q_pureRow_eq_2, q_V_cells_eq_2, q_splice_eq_1, q_stVarK_eq_1, q_storeK_eq_1, q_mapT_eq_1, q_mapT_eq_2, q_mapO_eq_1, q_mapO_eq_2, q_freeB_eq_1, q_freeT_eq_1, q_freeT_eq_2, q_freeO_eq_1, q_V_noRef_eq_1, q_K_noRef_eq_1, q_endK_eq_2, q_endL_eq_1, q_endV_eq_1, q_resL_eq_1, q_resL_eq_2, q_resX_eq_2, q_resCell_eq_1, q_one_eq_1, q_V_nrm_eq_1, q_V_nrm_eq_2, q_K_nrm_eq_1, q_K_nrm_eq_2, q_K_nrm_eq_3, q_O_nrm_eq_1, q_V_owns_eq_4, q_V_toNew_eq_2, q_C_norm_eq_4, q_C_norm_eq_5, q_C_normRow_eq_1, q_C_normRow_eq_2, q_Option_map_some, q_List_map_cons, q_List_map_nil, q_List_take_succ_cons, q_List_take_zero, q_List_drop_succ_cons, q_List_drop_zero, q_List_nil_append, q_List_length_cons, q_List_length_nil, q_List_getD_cons_zero, true_and, if_true, and_self, Bool.and_true, Bool.or_true, BEq.rfl, List.append_nil, List.nodup_nil, Nat.reduceAdd, Nat.reduceLeDiff, Nat.reduceLT, Nat.reduceBEq, Nat.zero_add, Nat.add_zero, Int.toNat_zero, Nat.le_refl, q_learn_eq_1, q_condK_eq_1, q_condB_eq_1, q_condB_eq_2, r_vIaddr_lst, norm_lst, normRows_Ce, List.length_map, lookT_here, lookT_next, Int.reduceLE, lookO_here, uf77, uf77r33, uf77b34, uf77b37, uf77r38, uf77b39, uf77b40, uf77b65, uf77r66, uf77b67, uf77b68, uf77r69, uf77b70, uf77b71, uf77r72, uf77b73]
      exact fin_cell hS (by simp only [evalN, g0]; simp)
    · simp only [i0, cell_at q0, e0, q_wpLs_eq_1, q_wpLs_eq_2, q_wpL_eq_1, q_exL_eq_1, q_exL_eq_4, q_exL_eq_8, q_exL_eq_11, q_exL_eq_21, q_exL_eq_23, q_exL_eq_28, q_look_eq_1, q_look_eq_2, q_insT_eq_1, q_insO_eq_1, q_awl_eq_2, q_awl_eq_5, q_awl_eq_6, q_awl_eq_7, q_AE_thenL_eq_1, q_initT_eq_1, q_initT_eq_2, q_putK_eq_1, q_vBin_eq_1, q_resV_eq_1, q_binV_eq_1, q_binInt_eq_3, q_cutInt_eq_6, q_vFaddr_eq_3, q_partV_eq_2, q_vLoad_eq_2, q_freeB_eq_1, q_freeT_eq_1, q_freeT_eq_2, q_freeO_eq_1, q_V_noRef_eq_1, q_K_noRef_eq_1, q_List_map_cons, q_List_map_nil, q_List_getD_cons_zero, q_List_getD_cons_succ, true_and, if_true, and_self, Bool.and_true, Bool.or_true, BEq.rfl, Nat.reduceAdd, Nat.reduceLeDiff, Nat.reduceBEq, Nat.zero_add, Nat.add_zero, Int.toNat_zero, Nat.le_refl, q_learn_eq_1, q_condK_eq_1, q_condB_eq_1, r_vIaddr_lst, List.length_map, lookT_here, lookT_next, Int.reduceLE, uf77, uf77r35, uf77b36, uf77b37, uf77r38, uf77b39, uf77b40, uf77b65, uf77r66, uf77b67, uf77b68, uf77r69, uf77b70, uf77b71, uf77r72, uf77b73]
      refine call_r (s94 (n0 == 0)) ?_
      simp only [encCV, encCell, q_wpLs_eq_1, q_wpLs_eq_2, q_wpL_eq_1, q_exL_eq_9, q_look_eq_1, q_insT_eq_1, q_insO_eq_1, q_awl_eq_10, q_AE_thenL_eq_3, q_AE_inBlockL_eq_3, q_ofRow_eq_2, q_pureRow_eq_1, q_pureRow_eq_2, q_V_cells_eq_2, q_splice_eq_1, q_stVarK_eq_1, q_storeK_eq_1, q_mapT_eq_1, q_mapT_eq_2, q_mapO_eq_1, q_mapO_eq_2, q_endK_eq_2, q_endL_eq_1, q_endV_eq_1, q_resL_eq_1, q_resL_eq_2, q_resX_eq_2, q_resCell_eq_1, q_one_eq_1, q_V_nrm_eq_1, q_V_nrm_eq_2, q_K_nrm_eq_1, q_K_nrm_eq_2, q_K_nrm_eq_3, q_O_nrm_eq_1, q_V_owns_eq_4, q_V_toNew_eq_2, q_C_norm_eq_4, q_C_norm_eq_5, q_C_normRow_eq_1, q_C_normRow_eq_2, q_regN_eq_2, q_V_reg_eq_4, q_freesL_eq_1, q_addsL_eq_1, q_regK_eq_1, q_retK_eq_2, q_Option_map_some, q_List_map_cons, q_List_map_nil, q_List_take_succ_cons, q_List_take_zero, q_List_drop_succ_cons, q_List_drop_zero, q_List_nil_append, q_List_length_cons, q_List_length_nil, true_and, if_true, and_self, List.append_nil, List.nodup_nil, Nat.reduceAdd, Nat.reduceMul, Nat.reduceLT, Nat.reduceBEq, Nat.zero_add, Nat.le_refl, norm_lst, normRows_Ce, lookT_here, lookT_next, lookO_here]
      refine fin hS (encCV_eq (a := yes (n0 == 0)) ?_)
      rcases h3 rfl with h | h <;> simp only [] at h <;> subst h <;> simp only [evalN, g0, yes] <;> simp
  have q1 : 1 < l.length := by have : 1 < arity op := by { unfold arity; (repeat' split) <;> omega }; omega
  obtain ⟨k1, n1, e1⟩ : ∃ k n, l[1] = Cell.mk k n := ⟨_, _, rfl⟩
  have g1 : l.getD 1 ⟨false, 0⟩ = ⟨k1, n1⟩ := by simp [List.getD_eq_getElem?_getD, List.getElem?_eq_getElem q1, e1]
  have b1 : inN n1 := by have := hN l[1] (List.getElem_mem q1); rw [e1] at this; exact this
  have i1 : (1 : Int) < l.length := by omega
  by_cases c6 : op = 6
  · subst c6
    have h6 := h6 rfl
    rw [g0] at h6
    have q2 : 2 < l.length := by have : arity 6 = 3 := by decide
                                 omega
    obtain ⟨k2, n2, e2⟩ : ∃ k n, l[2] = Cell.mk k n := ⟨_, _, rfl⟩
    have g2 : l.getD 2 ⟨false, 0⟩ = ⟨k2, n2⟩ := by simp [List.getD_eq_getElem?_getD, List.getElem?_eq_getElem q2, e2]
    have i2 : (2 : Int) < l.length := by omega
    simp only [] at h6
    subst h6
    cases k1
    · simp only [i0, i1, i2, cell_at q0, cell_at q1, cell_at q2, e0, e1, e2, q_wpLs_eq_1, q_wpLs_eq_2, q_wpLQs_eq_1, q_wpLQs_eq_2, q_wpL_eq_1, q_wpLQ_eq_1, q_putDL_eq_1, q_AOp_dst_eq_1, q_AOp_dst_eq_8, q_AOp_dst_eq_12, q_AOp_dst_eq_22, q_exL_eq_1, q_exL_eq_4, q_exL_eq_6, q_exL_eq_9, q_exL_eq_11, q_exLQ_eq_1, q_exLQ_eq_3, q_exLQ_eq_9, q_exLQ_eq_22, q_exLQ_eq_24, q_look_eq_1, q_look_eq_2, q_insT_eq_1, q_insO_eq_1, q_awl_eq_1, q_awl_eq_2, q_awl_eq_3, q_awl_eq_5, q_awl_eq_6, q_awl_eq_7, q_awl_eq_10, q_AE_thenL_eq_1, q_AE_thenL_eq_3, q_AE_inBlockL_eq_3, q_initT_eq_1, q_initT_eq_2, q_putK_eq_1, q_vBin_eq_1, q_resV_eq_1, q_binV_eq_1, q_binInt_eq_3, q_cutInt_eq_6, q_vFaddr_eq_3, q_partV_eq_2, q_vLoad_eq_2, q_vPick_eq_3, q_vBuild_eq_1, q_rowV_eq_1, q_ofRow_eq_2, q_pureRow_eq_1, q_pureRow_eq_2, q_V_cells_eq_2, q_splice_eq_1, q_stVarK_eq_1, q_storeK_eq_1, q_mapT_eq_1, q_mapT_eq_2, q_mapO_eq_1, q_mapO_eq_2, q_freeB_eq_1, q_freeT_eq_1, q_freeT_eq_2, q_freeO_eq_1, q_V_noRef_eq_1, q_K_noRef_eq_1, q_endK_eq_2, q_endL_eq_1, q_endV_eq_1, q_resL_eq_1, q_resL_eq_2, q_resX_eq_2, q_resCell_eq_1, q_one_eq_1, q_V_nrm_eq_1, q_V_nrm_eq_2, q_V_nrm_eq_5, q_K_nrm_eq_1, q_K_nrm_eq_2, q_K_nrm_eq_3, q_O_nrm_eq_1, q_V_owns_eq_4, q_V_toNew_eq_2, q_C_norm_eq_4, q_C_norm_eq_5, q_C_normRow_eq_1, q_C_normRow_eq_2, q_Bool_not_true, q_Option_map_some, q_List_map_cons, q_List_map_nil, q_List_take_succ_cons, q_List_take_zero, q_List_drop_succ_cons, q_List_drop_zero, q_List_nil_append, q_List_length_cons, q_List_length_nil, q_List_getD_cons_zero, true_and, if_true, and_self, Bool.and_true, Bool.or_true, BEq.rfl, List.append_nil, List.nodup_nil, Nat.reduceAdd, Nat.reduceLeDiff, Nat.reduceLT, Nat.reduceBEq, Nat.zero_add, Nat.add_zero, Nat.le_refl, q_learn_eq_1, q_guardP_eq_1, q_condK_eq_1, q_condB_eq_1, q_condB_eq_2, r_vIaddr_lst, norm_lst, normRows_Ce, List.length_map, lookT_here, lookT_next, Int.reduceLE, Int.reduceToNat, Int.reduceBEq, lookO_here, uf77, uf77r48, uf77b49, uf77b52, uf77r53, uf77b54, uf77b55, uf77b56, uf77r57, uf77b58, uf77b59, uf77r60, uf77b61, uf77r62, uf77b63, uf77b64, uf77b65, uf77r66, uf77b67, uf77b68, uf77r69, uf77b70, uf77b71, uf77r72, uf77b73]
      exact fin_cell hS (by simp only [evalN, g0, g1]; simp)
    · cases k2
      · simp only [i0, i1, i2, cell_at q0, cell_at q1, cell_at q2, e0, e1, e2, q_wpLs_eq_1, q_wpLs_eq_2, q_wpLQs_eq_1, q_wpLQs_eq_2, q_wpL_eq_1, q_wpLQ_eq_1, q_AOp_dst_eq_1, q_AOp_dst_eq_8, q_AOp_dst_eq_12, q_AOp_dst_eq_22, q_exL_eq_1, q_exL_eq_4, q_exL_eq_6, q_exL_eq_9, q_exL_eq_11, q_exLQ_eq_1, q_exLQ_eq_3, q_exLQ_eq_9, q_exLQ_eq_14, q_exLQ_eq_22, q_exLQ_eq_24, q_look_eq_1, q_look_eq_2, q_insT_eq_1, q_insO_eq_1, q_awl_eq_1, q_awl_eq_2, q_awl_eq_3, q_awl_eq_5, q_awl_eq_6, q_awl_eq_7, q_awl_eq_10, q_AE_thenL_eq_1, q_AE_thenL_eq_3, q_AE_inBlockL_eq_3, q_initT_eq_1, q_initT_eq_2, q_putK_eq_1, q_vBin_eq_1, q_resV_eq_1, q_binV_eq_1, q_binInt_eq_3, q_cutInt_eq_6, q_vEqAgg_eq_1, q_mapV_eq_1, q_eqRow_eq_1, q_eqRow_eq_2, q_eqC_eq_1, q_eqC_eq_2, q_vFaddr_eq_3, q_partV_eq_1, q_partV_eq_2, q_vLoad_eq_2, q_vPick_eq_1, q_vBuild_eq_1, q_rowV_eq_1, q_ofRow_eq_2, q_pureRow_eq_1, q_pureRow_eq_2, q_V_cells_eq_2, q_splice_eq_1, q_stVarK_eq_1, q_storeK_eq_1, q_mapT_eq_1, q_mapT_eq_2, q_mapO_eq_1, q_mapO_eq_2, q_freeB_eq_1, q_freeT_eq_1, q_freeT_eq_2, q_freeO_eq_1, q_V_noRef_eq_1, q_K_noRef_eq_1, q_endK_eq_2, q_endL_eq_1, q_endV_eq_1, q_resL_eq_1, q_resL_eq_2, q_resX_eq_2, q_resCell_eq_1, q_one_eq_1, q_V_nrm_eq_1, q_V_nrm_eq_2, q_K_nrm_eq_1, q_K_nrm_eq_2, q_K_nrm_eq_3, q_O_nrm_eq_1, q_V_owns_eq_4, q_V_toNew_eq_2, q_C_norm_eq_4, q_C_norm_eq_5, q_C_normRow_eq_1, q_C_normRow_eq_2, q_Bool_not_true, q_Bool_not_false, q_Option_map_some, q_List_map_cons, q_List_map_nil, q_List_take_succ_cons, q_List_take_zero, q_List_drop_succ_cons, q_List_drop_zero, q_List_nil_append, q_List_length_cons, q_List_length_nil, q_List_getD_cons_zero, true_and, if_true, if_false, Bool.false_eq_true, and_self, Bool.and_true, Bool.or_true, BEq.rfl, List.append_nil, List.nodup_nil, Nat.reduceAdd, Nat.reduceLeDiff, Nat.reduceLT, Nat.reduceBEq, Nat.zero_add, Nat.add_zero, Nat.le_refl, q_learn_eq_1, q_guardP_eq_1, q_condK_eq_1, q_condB_eq_1, q_condB_eq_2, q_exKQ_eq_1, r_vIaddr_lst, norm_lst, normRows_Ce, List.length_map, lookT_here, lookT_next, Int.reduceLE, Int.reduceToNat, Int.reduceBEq, lookO_here, Option.bind_some, b_tf, Bool.false_and, uf77, uf77r48, uf77b49, uf77b52, uf77r53, uf77b54, uf77b55, uf77b56, uf77r57, uf77b58, uf77b59, uf77r60, uf77b61, uf77r62, uf77b63, uf77b64, uf77b65, uf77r66, uf77b67, uf77b68, uf77r69, uf77b70, uf77b71, uf77r72, uf77b73]
        exact fin_cell hS (by simp only [evalN, g0, g1, g2]; simp)
      · simp only [i0, i1, i2, cell_at q0, cell_at q1, cell_at q2, e0, e1, e2, q_wpLs_eq_1, q_wpLs_eq_2, q_wpLQs_eq_1, q_wpLQs_eq_2, q_wpL_eq_1, q_wpLQ_eq_1, q_AOp_dst_eq_1, q_AOp_dst_eq_8, q_AOp_dst_eq_12, q_AOp_dst_eq_22, q_exL_eq_1, q_exL_eq_4, q_exL_eq_6, q_exL_eq_8, q_exL_eq_9, q_exL_eq_11, q_exL_eq_23, q_exLQ_eq_1, q_exLQ_eq_3, q_exLQ_eq_9, q_exLQ_eq_14, q_exLQ_eq_22, q_exLQ_eq_24, q_look_eq_1, q_look_eq_2, q_insT_eq_1, q_insO_eq_1, q_awl_eq_1, q_awl_eq_2, q_awl_eq_3, q_awl_eq_5, q_awl_eq_6, q_awl_eq_7, q_awl_eq_10, q_AE_thenL_eq_1, q_AE_thenL_eq_3, q_AE_inBlockL_eq_3, q_initT_eq_1, q_initT_eq_2, q_putK_eq_1, q_vBin_eq_1, q_resV_eq_1, q_binV_eq_1, q_binInt_eq_3, q_cutInt_eq_6, q_vEqAgg_eq_1, q_mapV_eq_1, q_eqRow_eq_1, q_eqRow_eq_2, q_eqC_eq_1, q_eqC_eq_2, q_vFaddr_eq_3, q_partV_eq_1, q_partV_eq_2, q_vLoad_eq_2, q_vPick_eq_1, q_vBuild_eq_1, q_rowV_eq_1, q_ofRow_eq_2, q_pureRow_eq_1, q_pureRow_eq_2, q_V_cells_eq_2, q_splice_eq_1, q_stVarK_eq_1, q_storeK_eq_1, q_mapT_eq_1, q_mapT_eq_2, q_mapO_eq_1, q_mapO_eq_2, q_freeB_eq_1, q_freeT_eq_1, q_freeT_eq_2, q_freeO_eq_1, q_V_noRef_eq_1, q_K_noRef_eq_1, q_endK_eq_2, q_endL_eq_1, q_endV_eq_1, q_resL_eq_1, q_resL_eq_2, q_resX_eq_2, q_resCell_eq_1, q_one_eq_1, q_V_nrm_eq_1, q_V_nrm_eq_2, q_K_nrm_eq_1, q_K_nrm_eq_2, q_K_nrm_eq_3, q_O_nrm_eq_1, q_V_owns_eq_4, q_V_toNew_eq_2, q_C_norm_eq_4, q_C_norm_eq_5, q_C_normRow_eq_1, q_C_normRow_eq_2, q_Bool_not_true, q_Option_map_some, q_List_map_cons, q_List_map_nil, q_List_take_succ_cons, q_List_take_zero, q_List_drop_succ_cons, q_List_drop_zero, q_List_nil_append, q_List_length_cons, q_List_length_nil, q_List_getD_cons_zero, true_and, if_true, if_false, Bool.false_eq_true, and_self, Bool.and_true, Bool.true_and, Bool.or_true, BEq.rfl, List.append_nil, List.nodup_nil, Nat.reduceAdd, Nat.reduceLeDiff, Nat.reduceLT, Nat.reduceBEq, Nat.zero_add, Nat.add_zero, Nat.le_refl, q_learn_eq_1, q_guardP_eq_1, q_condK_eq_1, q_condB_eq_1, q_condB_eq_2, q_exKQ_eq_1, condB_beq, r_vIaddr_lst, norm_lst, normRows_Ce, List.length_map, lookT_here, lookT_next, Int.reduceLE, Int.reduceToNat, Int.reduceBEq, lookO_here, Option.bind_some, uf77, uf77r48, uf77b49, uf77r50, uf77b51, uf77b52, uf77r53, uf77b54, uf77b55, uf77b56, uf77r57, uf77b58, uf77b59, uf77r60, uf77b61, uf77r62, uf77b63, uf77b64, uf77b65, uf77r66, uf77b67, uf77b68, uf77r69, uf77b70, uf77b71, uf77r72, uf77b73]
        refine ⟨fun h => fin_cell hS (by simp only [evalN, g0, g1, g2]; simp [h]), fun h => fin_cell hS (by simp only [evalN, g0, g1, g2]; simp [h])⟩
  by_cases c45 : op = 4 ∨ op = 5
  · have hS' : S (encCV (logic ⟨k0, n0⟩ ⟨k1, n1⟩ (if op = 5 then 1 else 0))) := by
      refine fin hS (encCV_eq ?_)
      rcases c45 with rfl | rfl <;> simp only [evalN, g0, g1] <;> simp
    rcases c45 with rfl | rfl
    · simp only [i0, i1, cell_at q0, cell_at q1, e0, e1, q_wpLs_eq_1, q_wpLs_eq_2, q_wpL_eq_1, q_exL_eq_1, q_exL_eq_4, q_exL_eq_11, q_exL_eq_28, q_look_eq_1, q_look_eq_2, q_insT_eq_1, q_insO_eq_1, q_awl_eq_1, q_awl_eq_2, q_awl_eq_5, q_awl_eq_6, q_awl_eq_7, q_AE_thenL_eq_1, q_initT_eq_1, q_initT_eq_2, q_putK_eq_1, q_vBin_eq_1, q_resV_eq_1, q_binV_eq_1, q_binInt_eq_3, q_cutInt_eq_6, q_freeB_eq_1, q_freeT_eq_1, q_freeT_eq_2, q_freeO_eq_1, q_V_noRef_eq_1, q_K_noRef_eq_1, q_List_map_cons, q_List_map_nil, true_and, if_true, Bool.and_true, Bool.or_true, BEq.rfl, Nat.reduceAdd, Nat.reduceBEq, Nat.zero_add, q_learn_eq_1, q_condK_eq_1, q_condB_eq_1, q_condB_eq_2, lookT_here, lookT_next, Int.reduceBEq, uf77, uf77r46, uf77b47, uf77b59, uf77r60, uf77b61, uf77r62, uf77b63, uf77b64, uf77b65, uf77r66, uf77b67, uf77b68, uf77r69, uf77b70, uf77b71, uf77r72, uf77b73]
      refine call_r (s94 false) ?_
      cases k0 <;> cases k1
      all_goals
        simp only [encCV, encCell, yes, i0, i1, cell_at q0, cell_at q1, e0, e1, q_wpLs_eq_1, q_wpLs_eq_2, q_wpLQs_eq_1, q_wpLQs_eq_2, q_wpL_eq_1, q_wpLQ_eq_1, q_putDL_eq_1, q_AOp_dst_eq_1, q_AOp_dst_eq_8, q_AOp_dst_eq_12, q_AOp_dst_eq_14, q_AOp_dst_eq_20, q_AOp_dst_eq_22, q_exL_eq_1, q_exL_eq_3, q_exL_eq_4, q_exL_eq_6, q_exL_eq_8, q_exL_eq_9, q_exL_eq_11, q_exL_eq_15, q_exL_eq_21, q_exL_eq_23, q_exL_eq_28, q_exLQ_eq_1, q_exLQ_eq_3, q_exLQ_eq_9, q_exLQ_eq_14, q_exLQ_eq_22, q_exLQ_eq_24, q_look_eq_1, q_look_eq_2, q_insT_eq_1, q_insO_eq_1, q_awl_eq_1, q_awl_eq_2, q_awl_eq_3, q_awl_eq_5, q_awl_eq_6, q_awl_eq_7, q_awl_eq_10, q_AE_thenL_eq_1, q_AE_thenL_eq_3, q_AE_inBlockL_eq_1, q_AE_inBlockL_eq_3, q_putK_eq_1, q_vBin_eq_1, q_resV_eq_1, q_binV_eq_1, q_binInt_eq_3, q_cutInt_eq_6, q_vEqAgg_eq_1, q_mapV_eq_1, q_eqRow_eq_1, q_eqRow_eq_2, q_eqC_eq_1, q_eqC_eq_2, q_vUn_eq_1, q_unV_eq_2, q_mapC_eq_1, q_vFaddr_eq_3, q_partV_eq_1, q_partV_eq_2, q_loadO_eq_1, q_isV_eq_1, q_vLoad_eq_1, q_vLoad_eq_2, q_vPick_eq_1, q_vPick_eq_2, q_vBuild_eq_1, q_rowV_eq_1, q_ofRow_eq_2, q_pureRow_eq_1, q_pureRow_eq_2, q_V_cells_eq_2, q_splice_eq_1, q_stVarK_eq_1, q_storeK_eq_1, q_mapT_eq_1, q_mapT_eq_2, q_mapO_eq_1, q_mapO_eq_2, q_freeB_eq_1, q_freeT_eq_1, q_freeT_eq_2, q_freeO_eq_1, q_freeO_eq_2, q_V_noRef_eq_1, q_V_noRef_eq_2, q_K_noRef_eq_1, q_K_noRef_eq_3, q_O_noRef_eq_1, q_endK_eq_2, q_endL_eq_1, q_endV_eq_1, q_resL_eq_1, q_resL_eq_2, q_resX_eq_2, q_resCell_eq_1, q_one_eq_1, q_V_nrm_eq_1, q_V_nrm_eq_2, q_V_nrm_eq_5, q_K_nrm_eq_1, q_K_nrm_eq_2, q_K_nrm_eq_3, q_O_nrm_eq_1, q_V_owns_eq_4, q_V_toNew_eq_2, q_C_norm_eq_4, q_C_norm_eq_5, q_C_normRow_eq_1, q_C_normRow_eq_2, q_regN_eq_2, q_V_reg_eq_4, q_freesL_eq_1, q_addsL_eq_1, q_regK_eq_1, q_retK_eq_2, q_Bool_not_true, q_Bool_not_false, q_Option_map_some, q_List_map_cons, q_List_map_nil, q_List_take_succ_cons, q_List_take_zero, q_List_drop_succ_cons, q_List_drop_zero, q_List_nil_append, q_List_length_cons, q_List_length_nil, q_List_getD_cons_zero, q_List_getD_cons_succ, q_List_all_cons, q_List_all_nil, true_and, if_true, if_false, Bool.false_eq_true, and_self, bne_iff_ne, ne_eq, Bool.and_true, Bool.true_and, Bool.or_true, Bool.false_or, BEq.rfl, List.append_nil, List.nodup_nil, Nat.reduceAdd, Nat.reduceMul, Nat.reduceEqDiff, Nat.reduceLeDiff, Nat.reduceLT, Nat.reduceBEq, Nat.zero_add, Nat.add_zero, Int.toNat_zero, Nat.le_refl, q_learn_eq_1, not_false_eq_true, q_guardP_eq_2, q_condK_eq_1, q_condB_eq_1, q_condB_eq_2, q_exK_eq_1, q_exKQ_eq_1, condB_beq, r_vIaddr_lst, norm_lst, normRows_Ce, List.length_map, lookT_here, lookT_next, Int.reduceLE, Int.reduceToNat, lookO_here, lookO_next, Option.bind_some, b_ft, Bool.false_and, uf77r3, uf77b4, uf77b15, uf77r16, uf77b17, uf77r18, uf77b19, uf77b20, uf77b21, uf77r22, uf77b23, uf77b24, uf77r25, uf77b26, uf77r27, uf77b28, uf77b29, uf77r30, uf77b31, uf77b32, uf77r41, uf77b42, uf77b43, uf77r44, uf77b45]
        repeat' (first | with_reducible refine And.intro ?_ ?_ | with_reducible intro _)
      all_goals first | (exact fin_cell hS' (by simp_all [logic])) | (refine call_r (s94 true) ?_; simp only [encCV, encCell, yes, q_wpLs_eq_1, q_wpLs_eq_2, q_wpL_eq_1, q_exL_eq_9, q_look_eq_1, q_insT_eq_1, q_insO_eq_1, q_awl_eq_10, q_AE_thenL_eq_3, q_AE_inBlockL_eq_3, q_ofRow_eq_2, q_pureRow_eq_1, q_pureRow_eq_2, q_V_cells_eq_2, q_splice_eq_1, q_stVarK_eq_1, q_storeK_eq_1, q_mapT_eq_1, q_mapT_eq_2, q_mapO_eq_1, q_mapO_eq_2, q_endK_eq_2, q_endL_eq_1, q_endV_eq_1, q_resL_eq_1, q_resL_eq_2, q_resX_eq_2, q_resCell_eq_1, q_one_eq_1, q_V_nrm_eq_1, q_V_nrm_eq_2, q_K_nrm_eq_1, q_K_nrm_eq_2, q_K_nrm_eq_3, q_O_nrm_eq_1, q_V_owns_eq_4, q_V_toNew_eq_2, q_C_norm_eq_4, q_C_norm_eq_5, q_C_normRow_eq_1, q_C_normRow_eq_2, q_regN_eq_2, q_V_reg_eq_4, q_freesL_eq_1, q_addsL_eq_1, q_regK_eq_1, q_retK_eq_2, q_Option_map_some, q_List_map_cons, q_List_map_nil, q_List_take_succ_cons, q_List_take_zero, q_List_drop_succ_cons, q_List_drop_zero, q_List_nil_append, q_List_length_cons, q_List_length_nil, true_and, if_true, and_self, List.append_nil, List.nodup_nil, Nat.reduceAdd, Nat.reduceMul, Nat.reduceLT, Nat.reduceBEq, Nat.zero_add, Nat.le_refl, norm_lst, normRows_Ce, lookT_here, lookT_next, lookO_here, lookO_next]; exact fin_cell hS' (by simp_all [logic]))
    · simp only [i0, i1, cell_at q0, cell_at q1, e0, e1, q_wpLs_eq_1, q_wpLs_eq_2, q_wpL_eq_1, q_exL_eq_1, q_exL_eq_4, q_exL_eq_11, q_exL_eq_28, q_look_eq_1, q_look_eq_2, q_insT_eq_1, q_insO_eq_1, q_awl_eq_2, q_awl_eq_5, q_awl_eq_6, q_awl_eq_7, q_AE_thenL_eq_1, q_initT_eq_1, q_initT_eq_2, q_putK_eq_1, q_vBin_eq_1, q_resV_eq_1, q_binV_eq_1, q_binInt_eq_3, q_cutInt_eq_6, q_freeB_eq_1, q_freeT_eq_1, q_freeT_eq_2, q_freeO_eq_1, q_V_noRef_eq_1, q_K_noRef_eq_1, q_List_map_cons, q_List_map_nil, true_and, if_true, Bool.and_true, Bool.or_true, BEq.rfl, Nat.reduceAdd, Nat.reduceBEq, Nat.zero_add, q_learn_eq_1, q_condK_eq_1, q_condB_eq_1, q_condB_eq_2, lookT_here, lookT_next, Int.reduceBEq, uf77, uf77r46, uf77b47, uf77b59, uf77r60, uf77b61, uf77r62, uf77b63, uf77b64, uf77b65, uf77r66, uf77b67, uf77b68, uf77r69, uf77b70, uf77b71, uf77r72, uf77b73]
      refine call_r (s94 true) ?_
      cases k0 <;> cases k1
      all_goals
        simp only [encCV, encCell, yes, i0, i1, cell_at q0, cell_at q1, e0, e1, q_wpLs_eq_1, q_wpLs_eq_2, q_wpLQs_eq_1, q_wpLQs_eq_2, q_wpL_eq_1, q_wpLQ_eq_1, q_putDL_eq_1, q_AOp_dst_eq_1, q_AOp_dst_eq_8, q_AOp_dst_eq_12, q_AOp_dst_eq_14, q_AOp_dst_eq_20, q_AOp_dst_eq_22, q_exL_eq_1, q_exL_eq_3, q_exL_eq_4, q_exL_eq_6, q_exL_eq_8, q_exL_eq_9, q_exL_eq_11, q_exL_eq_15, q_exL_eq_21, q_exL_eq_23, q_exL_eq_28, q_exLQ_eq_1, q_exLQ_eq_3, q_exLQ_eq_9, q_exLQ_eq_14, q_exLQ_eq_22, q_exLQ_eq_24, q_look_eq_1, q_look_eq_2, q_insT_eq_1, q_insO_eq_1, q_awl_eq_1, q_awl_eq_2, q_awl_eq_3, q_awl_eq_5, q_awl_eq_6, q_awl_eq_7, q_awl_eq_10, q_AE_thenL_eq_1, q_AE_thenL_eq_3, q_AE_inBlockL_eq_1, q_AE_inBlockL_eq_3, q_putK_eq_1, q_vBin_eq_1, q_resV_eq_1, q_binV_eq_1, q_binInt_eq_3, q_cutInt_eq_6, q_vEqAgg_eq_1, q_mapV_eq_1, q_eqRow_eq_1, q_eqRow_eq_2, q_eqC_eq_1, q_eqC_eq_2, q_vUn_eq_1, q_unV_eq_2, q_mapC_eq_1, q_vFaddr_eq_3, q_partV_eq_1, q_partV_eq_2, q_loadO_eq_1, q_isV_eq_1, q_vLoad_eq_1, q_vLoad_eq_2, q_vPick_eq_1, q_vPick_eq_2, q_vBuild_eq_1, q_rowV_eq_1, q_ofRow_eq_2, q_pureRow_eq_1, q_pureRow_eq_2, q_V_cells_eq_2, q_splice_eq_1, q_stVarK_eq_1, q_storeK_eq_1, q_mapT_eq_1, q_mapT_eq_2, q_mapO_eq_1, q_mapO_eq_2, q_freeB_eq_1, q_freeT_eq_1, q_freeT_eq_2, q_freeO_eq_1, q_freeO_eq_2, q_V_noRef_eq_1, q_V_noRef_eq_2, q_K_noRef_eq_1, q_K_noRef_eq_3, q_O_noRef_eq_1, q_endK_eq_2, q_endL_eq_1, q_endV_eq_1, q_resL_eq_1, q_resL_eq_2, q_resX_eq_2, q_resCell_eq_1, q_one_eq_1, q_V_nrm_eq_1, q_V_nrm_eq_2, q_V_nrm_eq_5, q_K_nrm_eq_1, q_K_nrm_eq_2, q_K_nrm_eq_3, q_O_nrm_eq_1, q_V_owns_eq_4, q_V_toNew_eq_2, q_C_norm_eq_4, q_C_norm_eq_5, q_C_normRow_eq_1, q_C_normRow_eq_2, q_regN_eq_2, q_V_reg_eq_4, q_freesL_eq_1, q_addsL_eq_1, q_regK_eq_1, q_retK_eq_2, q_Bool_not_true, q_Bool_not_false, q_Option_map_some, q_List_map_cons, q_List_map_nil, q_List_take_succ_cons, q_List_take_zero, q_List_drop_succ_cons, q_List_drop_zero, q_List_nil_append, q_List_length_cons, q_List_length_nil, q_List_getD_cons_zero, q_List_getD_cons_succ, q_List_all_cons, q_List_all_nil, true_and, if_true, if_false, Bool.false_eq_true, and_self, bne_iff_ne, ne_eq, Bool.and_true, Bool.true_and, Bool.or_true, Bool.false_or, BEq.rfl, List.append_nil, List.nodup_nil, Nat.reduceAdd, Nat.reduceMul, Nat.reduceEqDiff, Nat.reduceLeDiff, Nat.reduceLT, Nat.reduceBEq, Nat.zero_add, Nat.add_zero, Int.toNat_zero, Nat.le_refl, q_learn_eq_1, not_false_eq_true, q_guardP_eq_2, q_condK_eq_1, q_condB_eq_1, q_condB_eq_2, q_exK_eq_1, q_exKQ_eq_1, condB_beq, r_vIaddr_lst, norm_lst, normRows_Ce, List.length_map, lookT_here, lookT_next, Int.reduceLE, Int.reduceToNat, Int.reduceBEq, lookO_here, lookO_next, Option.bind_some, b_ft, Bool.false_and, uf77r3, uf77b4, uf77b15, uf77r16, uf77b17, uf77r18, uf77b19, uf77b20, uf77b21, uf77r22, uf77b23, uf77b24, uf77r25, uf77b26, uf77r27, uf77b28, uf77b29, uf77r30, uf77b31, uf77b32, uf77r41, uf77b42, uf77b43, uf77r44, uf77b45]
        repeat' (first | with_reducible refine And.intro ?_ ?_ | with_reducible intro _)
      all_goals first | (exact fin_cell hS' (by simp_all [logic])) | (refine call_r (s94 false) ?_; simp only [encCV, encCell, yes, q_wpLs_eq_1, q_wpLs_eq_2, q_wpL_eq_1, q_exL_eq_9, q_look_eq_1, q_insT_eq_1, q_insO_eq_1, q_awl_eq_10, q_AE_thenL_eq_3, q_AE_inBlockL_eq_3, q_ofRow_eq_2, q_pureRow_eq_1, q_pureRow_eq_2, q_V_cells_eq_2, q_splice_eq_1, q_stVarK_eq_1, q_storeK_eq_1, q_mapT_eq_1, q_mapT_eq_2, q_mapO_eq_1, q_mapO_eq_2, q_endK_eq_2, q_endL_eq_1, q_endV_eq_1, q_resL_eq_1, q_resL_eq_2, q_resX_eq_2, q_resCell_eq_1, q_one_eq_1, q_V_nrm_eq_1, q_V_nrm_eq_2, q_K_nrm_eq_1, q_K_nrm_eq_2, q_K_nrm_eq_3, q_O_nrm_eq_1, q_V_owns_eq_4, q_V_toNew_eq_2, q_C_norm_eq_4, q_C_norm_eq_5, q_C_normRow_eq_1, q_C_normRow_eq_2, q_regN_eq_2, q_V_reg_eq_4, q_freesL_eq_1, q_addsL_eq_1, q_regK_eq_1, q_retK_eq_2, q_Option_map_some, q_List_map_cons, q_List_map_nil, q_List_take_succ_cons, q_List_take_zero, q_List_drop_succ_cons, q_List_drop_zero, q_List_nil_append, q_List_length_cons, q_List_length_nil, true_and, if_true, if_false, Bool.false_eq_true, and_self, List.append_nil, List.nodup_nil, Nat.reduceAdd, Nat.reduceMul, Nat.reduceLT, Nat.reduceBEq, Nat.zero_add, Nat.le_refl, norm_lst, normRows_Ce, lookT_here, lookT_next, lookO_here, lookO_next]; exact fin_cell hS' (by simp_all [logic]))
  simp only [not_or] at c45
  have hev : evalN op l = if k0 = false ∨ k1 = false then ⟨false, 0⟩ else number op n0 n1 := by
    simp only [evalN, g0, g1, if_neg c3, if_neg c6, if_neg c45.1, if_neg c45.2]
  rw [hev] at hS
  cases k0 <;> cases k1
  all_goals simp only [i0, i1, cell_at q0, cell_at q1, e0, e1, c3, c6, c45.1, c45.2, q_wpLs_eq_1, q_wpLs_eq_2, q_wpLQs_eq_1, q_wpLQs_eq_2, q_wpL_eq_1, q_wpLQ_eq_1, q_putDL_eq_1, q_AOp_dst_eq_1, q_AOp_dst_eq_8, q_AOp_dst_eq_12, q_AOp_dst_eq_14, q_AOp_dst_eq_20, q_AOp_dst_eq_22, q_exL_eq_1, q_exL_eq_3, q_exL_eq_4, q_exL_eq_6, q_exL_eq_8, q_exL_eq_9, q_exL_eq_11, q_exL_eq_15, q_exL_eq_21, q_exL_eq_23, q_exL_eq_28, q_exLQ_eq_1, q_exLQ_eq_3, q_exLQ_eq_9, q_exLQ_eq_14, q_exLQ_eq_22, q_exLQ_eq_24, q_look_eq_1, q_look_eq_2, q_insT_eq_1, q_insO_eq_1, q_awl_eq_1, q_awl_eq_2, q_awl_eq_3, q_awl_eq_5, q_awl_eq_6, q_awl_eq_7, q_awl_eq_10, q_AE_thenL_eq_1, q_AE_thenL_eq_3, q_AE_inBlockL_eq_1, q_AE_inBlockL_eq_3, q_initT_eq_1, q_initT_eq_2, q_putK_eq_1, q_vBin_eq_1, q_resV_eq_1, q_binV_eq_1, q_binInt_eq_3, q_cutInt_eq_6, q_cutInt_eq_8, q_vEqAgg_eq_1, q_vUn_eq_1, q_unV_eq_2, q_mapC_eq_1, q_vFaddr_eq_3, q_partV_eq_1, q_partV_eq_2, q_vLoad_eq_2, q_vPick_eq_1, q_vPick_eq_2, q_vPick_eq_3, q_vBuild_eq_1, q_rowV_eq_1, q_ofRow_eq_2, q_pureRow_eq_1, q_pureRow_eq_2, q_V_cells_eq_2, q_splice_eq_1, q_stVarK_eq_1, q_storeK_eq_1, q_mapT_eq_1, q_mapT_eq_2, q_mapO_eq_1, q_mapO_eq_2, q_freeB_eq_1, q_freeT_eq_1, q_freeT_eq_2, q_freeO_eq_1, q_V_noRef_eq_1, q_K_noRef_eq_1, q_endK_eq_2, q_endL_eq_1, q_endV_eq_1, q_resL_eq_1, q_resL_eq_2, q_resX_eq_2, q_resCell_eq_1, q_one_eq_1, q_V_nrm_eq_1, q_V_nrm_eq_2, q_V_nrm_eq_5, q_K_nrm_eq_1, q_K_nrm_eq_2, q_K_nrm_eq_3, q_O_nrm_eq_1, q_V_owns_eq_4, q_V_toNew_eq_2, q_C_norm_eq_4, q_C_norm_eq_5, q_C_normRow_eq_1, q_C_normRow_eq_2, q_Bool_not_true, q_Bool_not_false, q_Option_map_some, q_List_map_cons, q_List_map_nil, q_List_take_succ_cons, q_List_take_zero, q_List_drop_succ_cons, q_List_drop_zero, q_List_nil_append, q_List_length_cons, q_List_length_nil, q_List_getD_cons_zero, q_List_getD_cons_succ, true_and, if_true, if_false, Bool.false_eq_true, false_implies, forall_const, and_self, Bool.and_true, Bool.or_true, List.append_nil, List.nodup_nil, Nat.reduceAdd, Nat.reduceLeDiff, Nat.reduceLT, Nat.reduceBEq, Nat.zero_add, Nat.add_zero, Int.toNat_zero, Nat.le_refl, q_learn_eq_1, not_false_eq_true, q_guardP_eq_1, q_guardP_eq_2, q_condK_eq_1, q_condB_eq_1, q_condB_eq_2, q_exK_eq_1, q_exKQ_eq_1, condB_beq, r_vIaddr_lst, norm_lst, normRows_Ce, List.length_map, lookT_here, lookT_next, Int.reduceLE, Int.reduceToNat, lookO_here, uf77, uf77r1, uf77b2, uf77r3, uf77b4, uf77r5, uf77b6, uf77r7, uf77b8, uf77b9, uf77r10, uf77b11, uf77b12, uf77r13, uf77b14, uf77b15, uf77r16, uf77b17, uf77r18, uf77b19, uf77b20, uf77b21, uf77r22, uf77b23, uf77b24, uf77r25, uf77b26, uf77r27, uf77b28, uf77b29, uf77r30, uf77b31, uf77b32, uf77r33, uf77b34, uf77r35, uf77b36, uf77b37, uf77r38, uf77b39, uf77b40, uf77r46, uf77b47, uf77r48, uf77b49, uf77b52, uf77r53, uf77b54, uf77b55, uf77b56, uf77r57, uf77b58, uf77b59, uf77r60, uf77b61, uf77r62, uf77b63, uf77b64, uf77b65, uf77r66, uf77b67, uf77b68, uf77r69, uf77b70, uf77b71, uf77r72, uf77b73]
  · exact fin_cell hS (by simp)
  · exact fin_cell hS (by simp)
  · exact fin_cell hS (by simp)
  rw [if_neg (by simp)] at hS
  refine ⟨fun h7 => ?_, fun h7 => ⟨fun h8 => ?_, fun h8 => ?_⟩⟩
  · refine call_r (s94 (decide (n0 < n1))) ?_
    simp only [encCV, encCell, q_wpLs_eq_1, q_wpLs_eq_2, q_wpL_eq_1, q_exL_eq_9, q_look_eq_1, q_insT_eq_1, q_insO_eq_1, q_awl_eq_10, q_AE_thenL_eq_3, q_AE_inBlockL_eq_3, q_ofRow_eq_2, q_pureRow_eq_1, q_pureRow_eq_2, q_V_cells_eq_2, q_splice_eq_1, q_stVarK_eq_1, q_storeK_eq_1, q_mapT_eq_1, q_mapT_eq_2, q_mapO_eq_1, q_mapO_eq_2, q_endK_eq_2, q_endL_eq_1, q_endV_eq_1, q_resL_eq_1, q_resL_eq_2, q_resX_eq_2, q_resCell_eq_1, q_one_eq_1, q_V_nrm_eq_1, q_V_nrm_eq_2, q_K_nrm_eq_1, q_K_nrm_eq_2, q_K_nrm_eq_3, q_O_nrm_eq_1, q_V_owns_eq_4, q_V_toNew_eq_2, q_C_norm_eq_4, q_C_norm_eq_5, q_C_normRow_eq_1, q_C_normRow_eq_2, q_regN_eq_2, q_V_reg_eq_4, q_freesL_eq_1, q_addsL_eq_1, q_regK_eq_1, q_retK_eq_2, q_Option_map_some, q_List_map_cons, q_List_map_nil, q_List_take_succ_cons, q_List_take_zero, q_List_drop_succ_cons, q_List_drop_zero, q_List_nil_append, q_List_length_cons, q_List_length_nil, true_and, if_true, and_self, List.append_nil, List.nodup_nil, Nat.reduceAdd, Nat.reduceMul, Nat.reduceLT, Nat.reduceBEq, Nat.zero_add, Nat.le_refl, norm_lst, normRows_Ce, lookT_here, lookT_next, lookO_here]
    exact fin hS (encCV_eq (a := yes (decide (n0 < n1))) (by simp [number, h7]))
  · refine call_r (s94 (n0 == n1)) ?_
    simp only [encCV, encCell, q_wpLs_eq_1, q_wpLs_eq_2, q_wpL_eq_1, q_exL_eq_9, q_look_eq_1, q_insT_eq_1, q_insO_eq_1, q_awl_eq_10, q_AE_thenL_eq_3, q_AE_inBlockL_eq_3, q_ofRow_eq_2, q_pureRow_eq_1, q_pureRow_eq_2, q_V_cells_eq_2, q_splice_eq_1, q_stVarK_eq_1, q_storeK_eq_1, q_mapT_eq_1, q_mapT_eq_2, q_mapO_eq_1, q_mapO_eq_2, q_endK_eq_2, q_endL_eq_1, q_endV_eq_1, q_resL_eq_1, q_resL_eq_2, q_resX_eq_2, q_resCell_eq_1, q_one_eq_1, q_V_nrm_eq_1, q_V_nrm_eq_2, q_K_nrm_eq_1, q_K_nrm_eq_2, q_K_nrm_eq_3, q_O_nrm_eq_1, q_V_owns_eq_4, q_V_toNew_eq_2, q_C_norm_eq_4, q_C_norm_eq_5, q_C_normRow_eq_1, q_C_normRow_eq_2, q_regN_eq_2, q_V_reg_eq_4, q_freesL_eq_1, q_addsL_eq_1, q_regK_eq_1, q_retK_eq_2, q_Option_map_some, q_List_map_cons, q_List_map_nil, q_List_take_succ_cons, q_List_take_zero, q_List_drop_succ_cons, q_List_drop_zero, q_List_nil_append, q_List_length_cons, q_List_length_nil, true_and, if_true, and_self, List.append_nil, List.nodup_nil, Nat.reduceAdd, Nat.reduceMul, Nat.reduceLT, Nat.reduceBEq, Nat.zero_add, Nat.le_refl, norm_lst, normRows_Ce, lookT_here, lookT_next, lookO_here]
    have e : (n0 == n1) = decide (n0 = n1) := by by_cases h : n0 = n1 <;> simp [h]
    exact fin hS (encCV_eq (a := yes (n0 == n1)) (by simp [number, h8, e]))
  · refine call_s (s95 op n0 n1 b0 b1) ?_
    simp only [q_wpLs_eq_1, q_wpLs_eq_2, q_wpL_eq_1, q_exL_eq_6, q_exL_eq_9, q_look_eq_1, q_look_eq_2, q_insT_eq_1, q_insO_eq_1, q_awl_eq_10, q_putK_eq_1, q_vBuild_eq_1, q_vBuild_eq_2, q_rowV_eq_1, q_ofRow_eq_2, q_pureRow_eq_1, q_pureRow_eq_2, q_V_cells_eq_1, q_V_cells_eq_2, q_splice_eq_1, q_stVarK_eq_1, q_storeK_eq_1, q_mapT_eq_1, q_mapT_eq_2, q_mapO_eq_1, q_mapO_eq_2, q_endK_eq_2, q_endL_eq_1, q_endV_eq_1, q_resL_eq_1, q_resL_eq_2, q_resX_eq_2, q_resCell_eq_1, q_one_eq_1, q_V_nrm_eq_1, q_V_nrm_eq_2, q_K_nrm_eq_1, q_K_nrm_eq_2, q_K_nrm_eq_3, q_O_nrm_eq_1, q_V_owns_eq_4, q_V_toNew_eq_2, q_C_norm_eq_4, q_C_norm_eq_5, q_C_normRow_eq_1, q_C_normRow_eq_2, q_Option_map_some, q_List_map_cons, q_List_map_nil, q_List_take_succ_cons, q_List_take_zero, q_List_drop_succ_cons, q_List_drop_zero, q_List_nil_append, q_List_cons_append, q_List_length_cons, q_List_length_nil, true_and, if_true, and_self, List.append_nil, List.nodup_nil, Nat.reduceAdd, Nat.reduceLeDiff, Nat.reduceLT, Nat.reduceBEq, Nat.zero_add, Nat.le_refl, norm_lst, normRows_Ce, lookT_here, lookT_next, lookO_here]
    refine fin_cell hS ?_
    simp only [number, arith, if_neg h7, if_neg h8]
    (repeat' split) <;> rfl
end Go.Abs


set_option maxRecDepth 100000
namespace Go.Proofs
open Go.Shelf
def Try.laysSort_ren : Go.Shelf.Ren :=
  {
    f := fun x =>
      match x with
      | 189 => 49
      | 125 => 69
      | 257 => 68
      | 128 => 91
      | 129 => 92
      | 294 => 82
      | 295 => 83
      | 296 => 84
      | 297 => 85
      | 298 => 86
      | 299 => 87
      | 216 => 88
      | 300 => 89
      | 301 => 90
      | 328 => 100
      | 329 => 101
      | 330 => 102
      | 331 => 103
      | 332 => 104
      | 215 => 105
      | 343 => 107
      | n => n,
    t := fun x =>
      match x with
      | 28 => 36
      | 3 => 3
      | 46 => 89
      | 0 => 0
      | 51 => 110
      | 53 => 112
      | 4 => 4
      | 183 => 104
      | 182 => 103
      | 131 => 28
      | 5 => 5
      | 9 => 9
      | 218 => 117
      | 222 => 121
      | 228 => 123
      | 229 => 124
      | n => n,
    g := fun n => n }
theorem Try.laysSort : Lays.n189 Try.prog Try.laysSort_ren :=
  { mixed := Eq.refl true, f125 := Eq.trans Try.func69 (congrArg some (Eq.refl (Body.n125 Try.laysSort_ren))),
    f128 := Eq.trans Try.func91 (congrArg some (Eq.refl (Body.n128 Try.laysSort_ren))),
    f129 := Eq.trans Try.func92 (congrArg some (Eq.refl (Body.n129 Try.laysSort_ren))),
    f189 := Eq.trans Try.func49 (congrArg some (Eq.refl (Body.n189 Try.laysSort_ren))),
    f215 := Eq.trans Try.func105 (congrArg some (Eq.refl (Body.n215 Try.laysSort_ren))),
    f216 := Eq.trans Try.func88 (congrArg some (Eq.refl (Body.n216 Try.laysSort_ren))),
    f257 := Eq.trans Try.func68 (congrArg some (Eq.refl (Body.n257 Try.laysSort_ren))),
    f294 := Eq.trans Try.func82 (congrArg some (Eq.refl (Body.n294 Try.laysSort_ren))),
    f295 := Eq.trans Try.func83 (congrArg some (Eq.refl (Body.n295 Try.laysSort_ren))),
    f296 := Eq.trans Try.func84 (congrArg some (Eq.refl (Body.n296 Try.laysSort_ren))),
    f297 := Eq.trans Try.func85 (congrArg some (Eq.refl (Body.n297 Try.laysSort_ren))),
    f298 := Eq.trans Try.func86 (congrArg some (Eq.refl (Body.n298 Try.laysSort_ren))),
    f299 := Eq.trans Try.func87 (congrArg some (Eq.refl (Body.n299 Try.laysSort_ren))),
    f300 := Eq.trans Try.func89 (congrArg some (Eq.refl (Body.n300 Try.laysSort_ren))),
    f301 := Eq.trans Try.func90 (congrArg some (Eq.refl (Body.n301 Try.laysSort_ren))),
    f328 := Eq.trans Try.func100 (congrArg some (Eq.refl (Body.n328 Try.laysSort_ren))),
    f329 := Eq.trans Try.func101 (congrArg some (Eq.refl (Body.n329 Try.laysSort_ren))),
    f330 := Eq.trans Try.func102 (congrArg some (Eq.refl (Body.n330 Try.laysSort_ren))),
    f331 := Eq.trans Try.func103 (congrArg some (Eq.refl (Body.n331 Try.laysSort_ren))),
    f332 := Eq.trans Try.func104 (congrArg some (Eq.refl (Body.n332 Try.laysSort_ren))),
    f343 := Eq.trans Try.func107 (congrArg some (Eq.refl (Body.n343 Try.laysSort_ren))), t0 := Try.underlying0,
    a0 := Try.isAgg0, z0 := Try.sizeOf0, v0 := Try.zeroValue0, t3 := Try.underlying3, a3 := Try.isAgg3, z3 := Try.sizeOf3,
    v3 := Try.zeroValue3, t4 := Try.underlying4, a4 := Try.isAgg4, z4 := Try.sizeOf4, v4 := Try.zeroValue4,
    t5 := Try.underlying5, a5 := Try.isAgg5, z5 := Try.sizeOf5, v5 := Try.zeroValue5, t9 := Try.underlying9,
    a9 := Try.isAgg9, z9 := Try.sizeOf9, v9 := Try.zeroValue9, t28 := Try.underlying36, a28 := Try.isAgg36,
    z28 := Try.sizeOf36, v28 := Try.zeroValue36, t46 := Try.underlying89, a46 := Try.isAgg89, z46 := Try.sizeOf89,
    v46 := Try.zeroValue89, t51 := Try.underlying110, a51 := Try.isAgg110, z51 := Try.sizeOf110, v51 := Try.zeroValue110,
    t53 := Try.underlying112, a53 := Try.isAgg112, z53 := Try.sizeOf112, v53 := Try.zeroValue112,
    t131 := Try.underlying28, a131 := Try.isAgg28, z131 := Try.sizeOf28, v131 := Try.zeroValue28,
    t182 := Try.underlying103, a182 := Try.isAgg103, z182 := Try.sizeOf103, v182 := Try.zeroValue103,
    t183 := Try.underlying104, a183 := Try.isAgg104, z183 := Try.sizeOf104, v183 := Try.zeroValue104,
    t218 := Try.underlying117, a218 := Try.isAgg117, z218 := Try.sizeOf117, v218 := Try.zeroValue117,
    t222 := Try.underlying121, a222 := Try.isAgg121, z222 := Try.sizeOf121, v222 := Try.zeroValue121,
    t228 := Try.underlying123, a228 := Try.isAgg123, z228 := Try.sizeOf123, v228 := Try.zeroValue123,
    t229 := Try.underlying124, a229 := Try.isAgg124, z229 := Try.sizeOf124, v229 := Try.zeroValue124 }
def Try.laysCompact_ren : Go.Shelf.Ren :=
  {
    f := fun x =>
      match x with
      | 20 => 50
      | n => n,
    t := fun x =>
      match x with
      | 22 => 36
      | 3 => 3
      | 4 => 4
      | 0 => 0
      | n => n,
    g := fun n => n }
theorem Try.laysCompact : Lays2.n20 Try.prog Try.laysCompact_ren :=
  { mixed := Eq.refl true, f20 := Eq.trans Try.func50 (congrArg some (Eq.refl (Body2.n20 Try.laysCompact_ren))),
    t0 := Try.underlying0, a0 := Try.isAgg0, z0 := Try.sizeOf0, v0 := Try.zeroValue0, t3 := Try.underlying3,
    a3 := Try.isAgg3, z3 := Try.sizeOf3, v3 := Try.zeroValue3, t4 := Try.underlying4, a4 := Try.isAgg4, z4 := Try.sizeOf4,
    v4 := Try.zeroValue4, t22 := Try.underlying36, a22 := Try.isAgg36, z22 := Try.sizeOf36, v22 := Try.zeroValue36,
    i3 := Eq.refl (some (some (Go.Value.int Go.IntKind.i64 0), 1, 8)) }
end Go.Proofs
set_option maxRecDepth 100000
namespace Go.Abs
open Go.Proofs
theorem callable_at {P : Program} {f : FuncId} (h : (match P.funcs[f]? with | some fn => fn.body.isSome && !(fn.name == "runtime.NumGoroutine") | none => false) = true) : Callable P f := by
  cases hf : P.funcs[f]? with
  | none => rw [hf] at h; cases h
  | some fn =>
    rw [hf] at h
    simp only [Bool.and_eq_true, Bool.not_eq_true'] at h
    exact ⟨fn, hf, h.1, h.2⟩
theorem s49 {e : TypeId} {τ : Nat} {l : List Int} (hl : l.length < 4611686018427387904) : SpecS Try.prog 49 [.k (.own τ)] (oneI e τ l) [τ] (fun r o' => r = .tup [] ∧ o' = oneI e τ (sortI l)) :=
  sort_spec Try.laysSort (callable_at (by kernel_rfl)) hl
theorem s50 {e : TypeId} {τ : Nat} {l : List Int} : SpecS Try.prog 50 [.k (.own τ)] (oneI e τ l) [] (fun r o' => r = .k (.own τ) ∧ o' = oneI e τ (Lib.compact l)) :=
  compact_spec Try.laysCompact (callable_at (by kernel_rfl))
end Go.Abs


set_option maxRecDepth 100000
namespace Go.Proofs
open Go.Shelf
def Try.laysGrow_ren : Go.Shelf.Ren :=
  { f := fun x =>
      match x with
      | 4 => 96
      | n => n,
    t := fun x =>
      match x with
      | 22 => 36
      | 25 => 3
      | 3 => 3
      | 4 => 4
      | 9 => 9
      | 20 => 20
      | 0 => 0
      | n => n,
    g := fun n => n }
theorem Try.laysGrow : Lays8.n4 Try.prog Try.laysGrow_ren :=
  { mixed := Eq.refl true,
    f4 := Exists.intro "slices.Grow[[]int,int]" ⟨of_decide_eq_true (id (Eq.refl true)),
      Eq.trans Try.func96 (congrArg some (Eq.refl { Body8.n4 Try.laysGrow_ren with name := "slices.Grow[[]int,int]" }))⟩,
    t0 := Try.underlying0, a0 := Try.isAgg0, z0 := Try.sizeOf0, v0 := Try.zeroValue0, t3 := Try.underlying3, a3 := Try.isAgg3, z3 := Try.sizeOf3, v3 := Try.zeroValue3,
    t4 := Try.underlying4, a4 := Try.isAgg4, z4 := Try.sizeOf4, v4 := Try.zeroValue4, t9 := Try.underlying9, a9 := Try.isAgg9, z9 := Try.sizeOf9, v9 := Try.zeroValue9,
    t20 := Try.underlying20, a20 := Try.isAgg20, z20 := Try.sizeOf20, v20 := Try.zeroValue20, t22 := Try.underlying36, a22 := Try.isAgg36, z22 := Try.sizeOf36, v22 := Try.zeroValue36 }
end Go.Proofs
namespace Go.Abs
open Go.Proofs
theorem s96 {n : Nat} (h : n ≤ 1000000) : Spec Try.prog 96 [.k (.c (.list 0 (some true) [])), .int .i64 n] (fun r => r = .k (.newl 3 1 none [])) :=
  grow_spec (i0 := (Try.prog.info? 3).getD default) (z := .int .i64 0) Try.laysGrow (callable_at (by kernel_rfl)) (by kernel_rfl) (by kernel_rfl) (by kernel_rfl) rfl (by
    have : ((Try.prog.info? (Try.laysGrow_ren.t 25)).getD default).bytes = 8 := by kernel_rfl
    show n * ((Try.prog.info? (Try.laysGrow_ren.t 25)).getD default).bytes ≤ _
    rw [this]; omega) (by omega)
end Go.Abs


set_option maxRecDepth 100000
set_option maxHeartbeats 4000000
namespace Go.Abs
open Go.Proofs
def encL (l : List Int) : List C := [lstC 1 (ints l)]
@[simp] theorem encL_norm (l : List Int) : C.normRow (encL l) = encL l := by simp [encL, C.normRow]
@[simp] theorem normRows_L (l : List (List Int)) : C.normRows (l.map encL) = l.map encL := normRows_eq encL_norm l
theorem encL_at {l : List (List Int)} {i : Nat} (h : i < l.length) : (l.map encL).getD i [] = [lstC 1 (ints l[i])] := by simp [h, encL]
theorem call_n {P : Program} {f : FuncId} {vs : List V} {K : KK} {d : Nat} {ts : TS} {os : OS} {args : List V} {e sz : Nat} {nl : Option Bool} {rows : List (List C)} {X : Prop} (hs : Spec P f args (fun r' => r' = .k (.newl e sz nl rows)))
    (hk : K (insT d (.k (.own d)) ts) (insO d (.arr e sz nl rows) os)) (hp : vs.all (fun v => (lendL os v).isPure) = true := by simp [lendL, lendO, lookO, V.isPure]) (ha : vs.map (lendL os) = args := by simp [lendL, lendO, lookO])
    (ht : vs.all (fun v => v.toks.isEmpty) = true := by simp [V.toks, K.toks]) (hf : freeB d ts os := by first | rfl | simp [freeB, freeT, freeO, V.noRef, V.noRefL, O.noRef, Abs.K.noRef, r_all_noRef]) : callK P f vs [] K (some d) ts os ∨ X := by
  refine .inl ⟨hp, _, .inr ⟨rfl, by rw [ha]; exact hs⟩, ?_⟩
  rw [if_neg (by simp [V.scalar])]
  refine ⟨ht, ?_⟩
  show regK _ _ _ _ _ _
  refine ⟨⟨⟨hf, .inl rfl⟩, trivial⟩, hk⟩
theorem flat_take {l : List (List Int)} {i : Nat} (h : i < l.length) : (l.take (i + 1)).flatten = (l.take i).flatten ++ l[i] := by
  rw [List.take_add_one, List.getElem?_eq_getElem h, List.flatten_append]; simp
theorem flatT_le {l : List (List Int)} (i : Nat) : (l.take i).flatten.length ≤ l.flatten.length := by
  conv => rhs; rw [← List.take_append_drop i l, List.flatten_append, List.length_append]
  omega
theorem s78 (l : List (List Int)) (h : l.flatten.length ≤ 1000000) : Spec Try.prog 78 [lst 1 (l.map encL)] (fun r => r = .k (.newl 3 1 none (ints l.flatten))) := by
  refine Spec.of_len hf78 fun hlen => ?_
  have hl := len_lst (sz := 1) (rows := l.map encL) List.mem_cons_self hlen
  rw [List.length_map] at hl
  clear hlen
  refine Spec.of_awlS hf78 okf78 (by simp) fun S hS => ?_
  simp only [q_wpLs_eq_1, q_wpLs_eq_2, q_wpL_eq_1, q_exL_eq_1, q_exL_eq_2, q_exL_eq_30, q_look_eq_1, q_look_eq_2, q_insT_eq_1, q_insO_eq_1, q_awl_eq_2, q_awl_eq_5, q_awl_eq_7, q_AE_thenL_eq_1, q_initT_eq_1, q_initT_eq_2, q_putK_eq_1, q_freeB_eq_1, q_freeT_eq_1, q_freeT_eq_2, q_freeO_eq_1, q_V_noRef_eq_1, q_K_noRef_eq_1, true_and, Bool.and_true, Bool.or_true, Nat.reduceBEq, Nat.zero_add, r_vLen_lst, List.length_map, lookT_here, lookT_next, uf78, uf78b36, uf78r37, uf78b38, uf78b39, uf78r40, uf78b41, uf78r42, uf78b43]
  rw [uf78l35]
  refine awl_loop (fun i : Nat => [(0, lst 1 (l.map encL)), (3, .int .i64 ((l.take i).flatten.length : Nat)), (9, lst 1 (l.map encL)), (10, .int .i64 l.length), (11, .int .i64 i)]) (fun _ => [])
    (fun i => i ≤ l.length) (fun i => l.length - i) 0 rfl rfl (Nat.zero_le _) ?_
  intro i hi
  by_cases hlt : i < l.length
  · have c1 : (i : Int) < l.length := by omega
    have c4 : IntKind.i64.wrap ((i : Int) + 1) = (i : Int) + 1 := wrap_in (by omega) (by omega)
    have hf := flat_take hlt
    have hle := flatT_le (l := l) (i + 1)
    have hn : (l.take (i + 1)).flatten.length = (l.take i).flatten.length + l[i].length := by rw [hf]; simp
    have c5 : IntKind.i64.wrap (((l.take i).flatten.length : Nat) + (l[i].length : Int)) = ((l.take (i + 1)).flatten.length : Nat) := by rw [wrap_in (by omega) (by omega)]; omega
    have c6 : ¬ ((((l.take (i + 1)).flatten.length : Nat) : Int) < 0) := by omega
    simp only [c1, c4, c5, c6, encL_at hlt, ints_len, q_wpLs_eq_1, q_wpLs_eq_2, q_wpL_eq_1, q_exL_eq_1, q_exL_eq_8, q_exL_eq_11, q_exL_eq_23, q_exL_eq_30, q_look_eq_1, q_look_eq_2, q_lookO_eq_1, q_insT_eq_1, q_awl_eq_1, q_awl_eq_2, q_awl_eq_5, q_awl_eq_6, q_awl_eq_7, q_AE_thenL_eq_1, q_AE_inBlockL_eq_1, q_putK_eq_1, q_vBin_eq_1, q_resV_eq_1, q_binV_eq_1, q_binInt_eq_3, q_cutInt_eq_1, q_cutInt_eq_8, q_partV_eq_2, q_vLoad_eq_2, q_List_getD_cons_zero, true_and, if_true, and_self, Nat.reduceBEq, Nat.zero_add, Int.toNat_natCast, Nat.le_refl, Int.natCast_nonneg, q_learn_eq_1, q_condK_eq_1, q_condB_eq_1, q_condB_eq_2, decide_true, decide_false, r_vLen_lst, r_vIaddr_lst, ints_len, List.length_map, lookT_here, lookT_next, uf78r20, uf78b22, uf78r23, uf78b24, uf78r25, uf78b26, uf78r27, uf78b28, uf78b29, uf78b30, uf78b31, uf78b32, uf78r33, uf78b34]
    exact Next.intro (i + 1) rfl rfl (by omega) (by omega)
  · have c1 : ¬ (i : Int) < l.length := by omega
    obtain rfl : i = l.length := by omega
    rw [List.take_length]
    simp only [c1, q_wpLs_eq_1, q_wpLs_eq_2, q_wpL_eq_1, q_exL_eq_1, q_exL_eq_11, q_exL_eq_28, q_look_eq_1, q_look_eq_2, q_insT_eq_1, q_awl_eq_2, q_awl_eq_5, q_awl_eq_6, q_awl_eq_9, q_AE_thenL_eq_1, q_AE_thenL_eq_2, q_AE_inBlockL_eq_2, q_putK_eq_1, q_vBin_eq_1, q_resV_eq_1, q_binV_eq_1, q_binInt_eq_3, q_cutInt_eq_8, q_List_map_cons, q_List_map_nil, true_and, if_true, Nat.reduceBEq, q_learn_eq_1, q_condK_eq_1, q_condB_eq_2, decide_false, lookT_here, lookT_next, uf78r18, uf78b19, uf78b31, uf78b32, uf78r33, uf78b34]
    refine call_n (s96 h) ?_
    simp only [q_wpLs_eq_1, q_wpLs_eq_2, q_wpL_eq_1, q_exL_eq_1, q_exL_eq_30, q_look_eq_1, q_look_eq_2, q_insT_eq_1, q_insO_eq_1, q_awl_eq_2, q_awl_eq_5, q_awl_eq_7, q_AE_thenL_eq_1, q_putK_eq_1, true_and, Nat.reduceBEq, r_vLen_lst, List.length_map, lookT_here, lookT_next, uf78b14, uf78r15, uf78b16, uf78b17]
    rw [uf78l13]
    refine awl_loop (fun x : Nat × Option Bool => [(6, .k (.own 24)), (25, lst 1 (l.map encL)), (26, .int .i64 l.length), (27, .int .i64 x.1)]) (fun x => [(24, .arr 3 1 x.2 (ints (l.take x.1).flatten))])
      (fun x => x.1 ≤ l.length) (fun x => l.length - x.1) (0, none) rfl rfl (Nat.zero_le _) ?_
    rintro ⟨i, nl⟩ hi
    simp only [] at hi
    by_cases hlt : i < l.length
    · have c1 : (i : Int) < l.length := by omega
      have c4 : IntKind.i64.wrap ((i : Int) + 1) = (i : Int) + 1 := wrap_in (by omega) (by omega)
      have hf := flat_take hlt
      have hle := flatT_le (l := l) (i + 1)
      have hn : (l.take (i + 1)).flatten.length = (l.take i).flatten.length + l[i].length := by rw [hf]; simp
      simp only [c1, c4, encL_at hlt, ints_len, ints_append, ← hf, q_wpLs_eq_1, q_wpLs_eq_2, q_wpL_eq_1, q_exL_eq_1, q_exL_eq_8, q_exL_eq_11, q_exL_eq_23, q_exL_eq_33, q_look_eq_1, q_look_eq_2, q_insT_eq_1, q_insO_eq_1, q_awl_eq_1, q_awl_eq_2, q_awl_eq_5, q_awl_eq_6, q_awl_eq_7, q_AE_thenL_eq_1, q_AE_inBlockL_eq_1, q_putK_eq_1, q_vBin_eq_1, q_resV_eq_1, q_binV_eq_1, q_binInt_eq_3, q_cutInt_eq_1, q_cutInt_eq_8, q_partV_eq_2, q_vLoad_eq_2, q_appK_eq_1, q_appendK_eq_1, q_mapT_eq_1, q_mapT_eq_2, q_mapO_eq_1, q_delO_eq_1, q_delO_eq_2, q_V_scrub_eq_1, q_K_scrub_eq_1, q_K_scrub_eq_5, q_List_getD_cons_zero, true_and, if_true, and_self, Nat.reduceBEq, Nat.zero_add, Int.toNat_natCast, Nat.le_refl, Int.natCast_nonneg, q_learn_eq_1, q_condK_eq_1, q_condB_eq_1, decide_true, r_vIaddr_lst, r_srcV_lst, ints_len, List.length_map, lookT_here, lookT_next, lookO_here, uf78r3, uf78r4, uf78r5, uf78b6, uf78b7, uf78b8, uf78b9, uf78b10, uf78r11, uf78b12]
      refine ⟨by omega, by omega, Next.intro (i + 1, _) rfl rfl (by simp only []; omega) (by simp only []; omega)⟩
    · have c1 : ¬ (i : Int) < l.length := by omega
      obtain rfl : i = l.length := by omega
      rw [List.take_length]
      simp only [c1, q_wpLs_eq_1, q_wpLs_eq_2, q_wpL_eq_1, q_exL_eq_1, q_exL_eq_11, q_look_eq_1, q_insT_eq_1, q_awl_eq_2, q_awl_eq_5, q_awl_eq_6, q_awl_eq_9, q_awl_eq_10, q_AE_thenL_eq_1, q_AE_thenL_eq_2, q_AE_inBlockL_eq_2, q_putK_eq_1, q_vBin_eq_1, q_resV_eq_1, q_binV_eq_1, q_binInt_eq_3, q_cutInt_eq_8, q_isArrO_eq_1, q_mapT_eq_1, q_mapT_eq_2, q_mapO_eq_1, q_mapO_eq_2, q_endK_eq_2, q_endL_eq_1, q_endV_eq_1, q_resL_eq_1, q_resL_eq_2, q_resX_eq_1, q_one_eq_1, q_V_nrm_eq_1, q_K_nrm_eq_1, q_K_nrm_eq_3, q_O_nrm_eq_2, q_V_owns_eq_1, q_K_owns_eq_1, q_V_toNew_eq_1, q_K_toNew_eq_2, q_C_norm_eq_4, q_C_norm_eq_5, true_and, if_true, and_self, List.nodup_nil, List.nodup_cons, Nat.reduceBEq, q_learn_eq_1, not_false_eq_true, q_condK_eq_1, q_condB_eq_2, decide_false, norm_lst, normRows_ints, lookT_here, lookT_next, lookO_here, List.not_mem_nil, uf78r1, uf78b2, uf78b9, uf78b10, uf78r11, uf78b12]
      exact hS
end Go.Abs


namespace Go.Abs
theorem chkA_ok : ∀ (l : List Term) (ty : List Int), (chkA l ty).1 = 0 → (∀ a ∈ l, (chk a).2 = 0) ∧ (chkA l ty).2 = ty ++ l.map fun a => (chk a).1
  | [], ty, _ => by simp [chkA]
  | t :: l, ty, h => by
    simp only [chkA] at h ⊢
    split at h
    · rename_i hne; exact absurd h hne
    · rename_i he
      rw [if_neg he]
      obtain ⟨h1, h2⟩ := chkA_ok l _ h
      refine ⟨?_, by rw [h2]; simp⟩
      intro a ha
      rcases List.mem_cons.1 ha with rfl | ha
      · simpa using he
      · exact h1 a ha
theorem chk_ok {t : Term} (h : (chk t).2 = 0) : (∀ a ∈ t.args, (chk a).2 = 0) ∧ chk t = node t (t.args.map fun a => (chk a).1) := by
  rw [chk_eq] at h
  by_cases h0 : (chkA t.args []).1 = 0
  · obtain ⟨h1, h2⟩ := chkA_ok _ _ h0
    refine ⟨h1, ?_⟩
    rw [chk_eq, if_neg (by simp [h0]), h2]; simp
  · rw [if_pos h0] at h; exact absurd h h0
theorem leaf_ty (t : Term) : (leaf t).1 = 0 ∨ (leaf t).1 = 1 := by
  unfold leaf
  split
  · simp
  split
  · split <;> simp
  split
  · split <;> simp
  · cases h : varType t.n with
    | none => simp
    | some k => unfold varType at h; split at h <;> (try split at h) <;> simp_all
theorem shape_len {op : Int} (h : 3 ≤ op) : ((shapeArgs op).length : Int) = if op = 3 then 1 else if op = 6 then 3 else 2 := by
  unfold shapeArgs
  (repeat' split) <;> simp_all <;> omega
theorem node_ty {t : Term} {tys : List Int} (h : ∀ x ∈ tys, x = 0 ∨ x = 1) : (node t tys).1 = 0 ∨ (node t tys).1 = 1 := by
  unfold node
  split
  · simp
  split
  · exact leaf_ty t
  split
  · simp
  rename_i h1 h2 h3
  have hl : tys.length = (shapeArgs t.op).length := by
    by_cases hh : tys.length = (shapeArgs t.op).length
    · exact hh
    · exact absurd (Or.inl hh) h3
  split
  · simp
  · rename_i c hc
    split
    · rename_i hr
      have h6 : t.op = 6 := by
        unfold shapeRes at hr
        by_cases c6 : t.op = 6
        · exact c6
        · exfalso
          rw [if_neg c6] at hr
          (repeat' split at hr) <;> simp at hr
      rw [h6] at hl hc
      have h3 : tys.length = 3 := by rw [hl]; rfl
      match tys, h3 with
      | [a, b, d], _ =>
        have hb := h b (by simp)
        have ha := h a (by simp)
        have hd := h d (by simp)
        have e : shapeArgs 6 = [1, -1, -1] := rfl
        rw [e] at hc
        show c = 0 ∨ c = 1
        rcases ha with rfl | rfl <;> rcases hb with rfl | rfl <;> rcases hd with rfl | rfl <;> simp [fit] at hc <;> omega
    · rename_i hr
      show shapeRes t.op = 0 ∨ shapeRes t.op = 1
      unfold shapeRes at hr ⊢
      (repeat' split at hr) <;> (repeat' split) <;> first | omega | (exfalso; exact hr rfl)
theorem chk_ty : ∀ t : Term, (chk t).1 = 0 ∨ (chk t).1 = 1 := by
  refine Term.ind fun o n a ih => ?_
  rw [chk_eq]
  split
  · simp
  · rename_i h0
    have h0 : (chkA a []).1 = 0 := by simpa [Term.args] using h0
    obtain ⟨h1, h2⟩ := chkA_ok a [] h0
    show (node _ (chkA a []).2).1 = 0 ∨ (node _ (chkA a []).2).1 = 1
    rw [h2]
    refine node_ty ?_
    intro x hx
    simp at hx
    obtain ⟨b, hb, rfl⟩ := hx
    exact ih b hb
end Go.Abs


set_option maxRecDepth 100000
namespace Go.Abs
open Go.Proofs
theorem s58 : ∀ (lv : Nat) (t : Term) (k : Int), 0 ≤ k → k ≤ 1000000 → lv ≤ 1000000 → Spec Try.prog 58 [.agg (encT t), .int .i64 k, .int .i64 lv] (fun r => r = .int .i64 (nodes t k lv)) := by
  intro lv
  induction lv with
  | zero =>
    intro t k h1 h2 h3
    refine Spec.of_awl hf58 okf58 (by simp) ?_
    have hw : IntKind.i64.wrap (k - 1) = k - 1 := wrap_in (by omega) (by omega)
    have hl : ((0 : Nat) : Int) < 1 := by omega
    simp only [encT_eq, lstC, map_len, hw, hl, not_true_eq_false, q_wpLs_eq_1, q_wpLs_eq_2, q_wpL_eq_1, q_exL_eq_1, q_exL_eq_5, q_exL_eq_11, q_look_eq_1, q_look_eq_2, q_insT_eq_1, q_insO_eq_1, q_awl_eq_2, q_awl_eq_5, q_awl_eq_6, q_awl_eq_10, q_AE_thenL_eq_1, q_AE_thenL_eq_3, q_initT_eq_1, q_initT_eq_2, q_putK_eq_1, q_vBin_eq_1, q_resV_eq_1, q_binV_eq_1, q_binInt_eq_3, q_cutInt_eq_2, q_cutInt_eq_8, q_boxK_eq_1, q_mapT_eq_1, q_mapT_eq_2, q_mapO_eq_1, q_mapO_eq_2, q_freeB_eq_1, q_freeT_eq_1, q_freeT_eq_2, q_freeO_eq_1, q_V_noRef_eq_1, q_V_noRef_eq_2, q_K_noRef_eq_1, q_endK_eq_2, q_endL_eq_1, q_endV_eq_1, q_resL_eq_1, q_resL_eq_2, q_resX_eq_1, q_one_eq_1, q_V_nrm_eq_1, q_V_nrm_eq_2, q_K_nrm_eq_1, q_K_nrm_eq_3, q_O_nrm_eq_1, q_V_owns_eq_1, q_K_owns_eq_2, q_V_toNew_eq_1, q_K_toNew_eq_1, q_C_norm_eq_1, q_C_norm_eq_4, q_C_norm_eq_5, q_C_normRow_eq_1, q_C_normRow_eq_2, q_List_map_cons, q_List_map_nil, true_and, if_true, and_self, Bool.and_true, Bool.or_true, Int.reduceNeg, List.nodup_nil, Nat.reduceAdd, Nat.reduceBEq, Nat.zero_add, q_learn_eq_1, q_condK_eq_1, q_condB_eq_1, decide_true, normRows_T, lookT_here, lookT_next, Int.reduceLT, Int.cast_ofNat_Int, uf58, uf58r16, uf58b17, uf58b18, uf58r19, uf58b20, uf58b21, uf58r22, uf58b23, uf58r24, uf58b25]
    rw [nodes_eq]
    simp
  | succ lv ih =>
    intro t k h1 h2 h3
    refine Spec.of_len hf58 fun hlen => ?_
    replace hlen : t.args.length ≤ 9223372036854775807 := by
      have := hlen (.agg (encT t)) (by simp) (lstC 3 (t.args.map encT)) (by rw [encT_eq]; simp [V.topC]) _ _ _ rfl
      simpa using this
    refine Spec.of_awl hf58 okf58 (by simp) ?_
    have hw : IntKind.i64.wrap (k - 1) = k - 1 := wrap_in (by omega) (by omega)
    have hl : ¬ ((lv + 1 : Nat) : Int) < 1 := by omega
    simp only [encT_eq, lstC, map_len, hw, hl, not_true_eq_false, not_false_eq_true, q_wpLs_eq_1, q_wpLs_eq_2, q_wpL_eq_1, q_exL_eq_1, q_exL_eq_5, q_exL_eq_11, q_look_eq_1, q_look_eq_2, q_insT_eq_1, q_insO_eq_1, q_awl_eq_1, q_awl_eq_2, q_awl_eq_5, q_awl_eq_6, q_awl_eq_7, q_AE_thenL_eq_1, q_initT_eq_1, q_initT_eq_2, q_putK_eq_1, q_vBin_eq_1, q_resV_eq_1, q_binV_eq_1, q_binInt_eq_3, q_cutInt_eq_2, q_cutInt_eq_8, q_boxK_eq_1, q_freeB_eq_1, q_freeT_eq_1, q_freeT_eq_2, q_freeO_eq_1, q_V_noRef_eq_1, q_V_noRef_eq_2, q_K_noRef_eq_1, q_List_map_cons, q_List_map_nil, true_and, if_true, Bool.and_true, Bool.or_true, Nat.reduceAdd, Nat.reduceBEq, Nat.zero_add, q_learn_eq_1, q_condK_eq_1, q_condB_eq_2, decide_false, lookT_here, lookT_next, uf58, uf58b12, uf58r13, uf58b14, uf58b15, uf58b18, uf58r19, uf58b20, uf58b21, uf58r22, uf58b23, uf58r24, uf58b25]
    rw [uf58l11]
    refine awl_loop (fun x : Nat × Int => [(1, .int .i64 x.2), (2, .int .i64 ((lv + 1 : Nat) : Int)), (3, .k (.ptr 3 0)), (7, .int .i64 x.1)]) (fun _ => [(3, .var 41 ((encT t).map .c))])
      (fun x => x.1 ≤ t.args.length ∧ -1 ≤ x.2 ∧ x.2 ≤ 1000000 ∧ nodesL (t.args.drop x.1) x.2 lv = nodesL t.args (k - 1) lv) (fun x => t.args.length - x.1) (0, k - 1) rfl (by rw [encT_eq]; rfl) ⟨Nat.zero_le _, by simp only []; omega, by simp only []; omega, rfl⟩ ?_
    rintro ⟨i, n⟩ ⟨hi, hn1, hn2, hj⟩
    simp only [] at hi hn1 hn2 hj
    have hfin : nodes t k ((lv + 1 : Nat) : Int) = nodesL t.args (k - 1) lv := by
      rw [nodes_eq, if_neg hl]
      congr 1; omega
    by_cases hlt : i < t.args.length
    · have c1 : (i : Int) < t.args.length := by omega
      have c3 : IntKind.i64.wrap (((lv + 1 : Nat) : Int) - 1) = (lv : Int) := by rw [wrap_in (by omega) (by omega)]; omega
      have c4 : IntKind.i64.wrap ((i : Int) + 1) = (i : Int) + 1 := wrap_in (by omega) (by omega)
      simp only [encT_eq t, lstC, map_len, map_isEmpty, sz_of hlt, map_at hlt, encT_len, c1, c3, not_true_eq_false, q_wpLs_eq_1, q_wpLs_eq_2, q_wpL_eq_1, q_AOp_dst_eq_1, q_AOp_dst_eq_10, q_exL_eq_1, q_exL_eq_3, q_exL_eq_8, q_exL_eq_11, q_exL_eq_21, q_exL_eq_23, q_exL_eq_28, q_exL_eq_30, q_look_eq_1, q_look_eq_2, q_insT_eq_1, q_awl_eq_1, q_awl_eq_2, q_awl_eq_5, q_awl_eq_6, q_awl_eq_7, q_awl_eq_9, q_awl_eq_10, q_AE_thenL_eq_1, q_AE_thenL_eq_2, q_AE_inBlockL_eq_1, q_AE_inBlockL_eq_2, q_putK_eq_1, q_vBin_eq_1, q_resV_eq_1, q_binV_eq_1, q_binInt_eq_3, q_cutInt_eq_2, q_cutInt_eq_8, q_cutInt_eq_11, q_vLen_eq_1, q_vFaddr_eq_1, q_partV_eq_1, q_loadO_eq_1, q_isV_eq_1, q_vLoad_eq_1, q_vLoad_eq_2, q_vIaddr_eq_1, q_vPick_eq_1, q_ofRow_eq_1, q_pureRow_eq_1, q_pureRow_eq_2, q_isVarO_eq_1, q_mapT_eq_1, q_mapT_eq_2, q_mapO_eq_1, q_mapO_eq_2, q_endK_eq_2, q_endL_eq_1, q_endV_eq_1, q_resL_eq_1, q_resL_eq_2, q_resX_eq_1, q_one_eq_1, q_V_nrm_eq_1, q_K_nrm_eq_1, q_K_nrm_eq_3, q_O_nrm_eq_1, q_V_owns_eq_1, q_K_owns_eq_2, q_V_toNew_eq_1, q_K_toNew_eq_1, q_C_norm_eq_1, q_C_norm_eq_4, q_C_norm_eq_5, q_Bool_not_true, q_Option_map_some, q_List_map_cons, q_List_map_nil, q_List_take_succ_cons, q_List_take_zero, q_List_drop_succ_cons, q_List_drop_zero, q_List_length_cons, q_List_length_nil, true_and, if_true, if_false, Bool.false_eq_true, and_self, Int.reduceNeg, List.nodup_nil, Nat.reduceAdd, Nat.reduceBEq, Nat.zero_add, Int.toNat_natCast, Nat.le_refl, Int.natCast_nonneg, q_learn_eq_1, q_guardP_eq_1, q_condK_eq_1, q_condB_eq_1, q_exK_eq_1, condB_decide, decide_true, normRows_T, List.length_map, lookT_here, lookT_next, lookO_here, uf58r1, uf58b2, uf58r3, uf58r4, uf58b5, uf58b6, uf58b7, uf58r8, uf58b9, uf58b10]
      refine ⟨fun h5 => ?_, fun h5 => ?_⟩
      · have hb := nodes_bd t.args[i] n lv (by omega)
        refine call_scalar (ih t.args[i] n (by omega) (by omega) (by omega)) rfl (by simp [lendL, V.norm, C.norm, encT_norm]) rfl ?_
        simp only [c4, q_wpLs_eq_1, q_wpLs_eq_2, q_wpL_eq_1, q_exL_eq_1, q_exL_eq_11, q_look_eq_1, q_look_eq_2, q_insT_eq_1, q_awl_eq_2, q_AE_thenL_eq_1, q_putK_eq_1, q_vBin_eq_1, q_resV_eq_1, q_binV_eq_1, q_binInt_eq_3, q_cutInt_eq_1, true_and, if_true, Int.reduceNeg, Nat.reduceBEq, lookT_here, lookT_next]
        refine Next.intro (i + 1, nodes t.args[i] n lv) rfl rfl ⟨by simp only []; omega, by simp only []; omega, by simp only []; omega, ?_⟩ (by simp only []; omega)
        rw [← hj, nodesL_drop hlt, if_neg (by omega)]
      · rw [hfin, ← hj, nodesL_neg _ _ _ (by omega)]
    · have c1 : ¬ (i : Int) < t.args.length := by omega
      simp only [encT_eq, lstC, map_len, c1, not_true_eq_false, not_false_eq_true, q_wpLs_eq_1, q_wpLs_eq_2, q_wpL_eq_1, q_putDL_eq_1, q_AOp_dst_eq_1, q_AOp_dst_eq_10, q_exL_eq_1, q_exL_eq_3, q_exL_eq_8, q_exL_eq_11, q_exL_eq_21, q_exL_eq_30, q_look_eq_1, q_look_eq_2, q_insT_eq_1, q_awl_eq_2, q_awl_eq_5, q_awl_eq_6, q_awl_eq_9, q_awl_eq_10, q_AE_thenL_eq_1, q_AE_thenL_eq_2, q_AE_inBlockL_eq_2, q_putK_eq_1, q_vBin_eq_1, q_resV_eq_1, q_binV_eq_1, q_binInt_eq_3, q_cutInt_eq_8, q_vLen_eq_1, q_vFaddr_eq_1, q_loadO_eq_1, q_isV_eq_1, q_vLoad_eq_1, q_vPick_eq_3, q_ofRow_eq_1, q_pureRow_eq_1, q_pureRow_eq_2, q_isVarO_eq_1, q_mapT_eq_1, q_mapT_eq_2, q_mapO_eq_1, q_mapO_eq_2, q_endK_eq_2, q_endL_eq_1, q_endV_eq_1, q_resL_eq_1, q_resL_eq_2, q_resX_eq_1, q_one_eq_1, q_V_nrm_eq_1, q_V_nrm_eq_5, q_K_nrm_eq_1, q_K_nrm_eq_3, q_O_nrm_eq_1, q_V_owns_eq_1, q_K_owns_eq_2, q_V_toNew_eq_1, q_K_toNew_eq_1, q_C_norm_eq_1, q_C_norm_eq_4, q_C_norm_eq_5, q_Bool_not_true, q_Option_map_some, q_List_map_cons, q_List_map_nil, q_List_take_succ_cons, q_List_take_zero, q_List_drop_succ_cons, q_List_drop_zero, q_List_length_cons, q_List_length_nil, true_and, if_true, if_false, Bool.false_eq_true, and_self, Int.reduceNeg, List.nodup_nil, Nat.reduceAdd, Nat.reduceBEq, Nat.zero_add, Nat.le_refl, q_learn_eq_1, q_guardP_eq_1, q_condK_eq_1, q_condB_eq_2, decide_false, normRows_T, List.length_map, lookT_here, lookT_next, lookO_here, uf58r1, uf58b2, uf58b7, uf58r8, uf58b9, uf58b10]
      rw [hfin, ← hj, List.drop_eq_nil_of_le (by omega), nodesL]
end Go.Abs


set_option maxRecDepth 100000
namespace Go.Abs
open Go.Proofs
theorem s59 : ∀ (f : Nat) (t : Term), f ≤ 8 → Spec Try.prog 59 [.agg (encT t), .int .i64 (9 - (f : Int))] (fun r => r = .int .i64 (meas f t)) := by
  intro f
  induction f with
  | zero =>
    intro t hf
    refine Spec.of_awl hf59 okf59 (by simp) ?_
    have c1 : (9 : Int) - ((0 : Nat) : Int) > 8 := by omega
    simp only [encT_eq, lstC, map_len, c1, not_true_eq_false, q_wpLs_eq_1, q_wpLs_eq_2, q_wpL_eq_1, q_exL_eq_1, q_exL_eq_5, q_exL_eq_11, q_look_eq_1, q_look_eq_2, q_insT_eq_1, q_insO_eq_1, q_awl_eq_2, q_awl_eq_5, q_awl_eq_6, q_awl_eq_10, q_AE_thenL_eq_1, q_AE_thenL_eq_3, q_initT_eq_1, q_initT_eq_2, q_putK_eq_1, q_vBin_eq_1, q_resV_eq_1, q_binV_eq_1, q_binInt_eq_3, q_cutInt_eq_10, q_boxK_eq_1, q_mapT_eq_1, q_mapT_eq_2, q_mapO_eq_1, q_mapO_eq_2, q_freeB_eq_1, q_freeT_eq_1, q_freeT_eq_2, q_freeO_eq_1, q_V_noRef_eq_1, q_V_noRef_eq_2, q_K_noRef_eq_1, q_endK_eq_2, q_endL_eq_1, q_endV_eq_1, q_resL_eq_1, q_resL_eq_2, q_resX_eq_1, q_one_eq_1, q_V_nrm_eq_1, q_V_nrm_eq_2, q_K_nrm_eq_1, q_K_nrm_eq_3, q_O_nrm_eq_1, q_V_owns_eq_1, q_K_owns_eq_2, q_V_toNew_eq_1, q_K_toNew_eq_1, q_C_norm_eq_1, q_C_norm_eq_4, q_C_norm_eq_5, q_C_normRow_eq_1, q_C_normRow_eq_2, q_List_map_cons, q_List_map_nil, true_and, if_true, and_self, Bool.and_true, Bool.or_true, List.nodup_nil, Nat.reduceAdd, Nat.reduceBEq, Nat.zero_add, q_learn_eq_1, q_condK_eq_1, q_condB_eq_1, decide_true, normRows_T, lookT_here, lookT_next, Int.reduceGT, Int.reduceSub, Int.cast_ofNat_Int, uf59, uf59r24, uf59b25, uf59b26, uf59r27, uf59b28, uf59b29, uf59r30, uf59b31]
    rfl
  | succ f ih =>
    intro t hf
    refine Spec.of_len hf59 fun hlen => ?_
    replace hlen : t.args.length ≤ 9223372036854775807 := by
      have := hlen (.agg (encT t)) (by simp) (lstC 3 (t.args.map encT)) (by rw [encT_eq]; simp [V.topC]) _ _ _ rfl
      simpa using this
    refine Spec.of_awl hf59 okf59 (by simp) ?_
    have hl : ¬ ((9 : Int) - ((f + 1 : Nat) : Int)) > 8 := by omega
    simp only [encT_eq, lstC, map_len, hl, not_true_eq_false, not_false_eq_true, q_wpLs_eq_1, q_wpLs_eq_2, q_wpL_eq_1, q_exL_eq_1, q_exL_eq_5, q_exL_eq_8, q_exL_eq_11, q_exL_eq_21, q_exL_eq_30, q_look_eq_1, q_look_eq_2, q_insT_eq_1, q_insO_eq_1, q_awl_eq_1, q_awl_eq_2, q_awl_eq_5, q_awl_eq_6, q_awl_eq_7, q_AE_thenL_eq_1, q_initT_eq_1, q_initT_eq_2, q_putK_eq_1, q_vBin_eq_1, q_resV_eq_1, q_binV_eq_1, q_binInt_eq_3, q_cutInt_eq_10, q_vLen_eq_1, q_vFaddr_eq_1, q_loadO_eq_1, q_isV_eq_1, q_vLoad_eq_1, q_ofRow_eq_1, q_pureRow_eq_1, q_pureRow_eq_2, q_isVarO_eq_1, q_boxK_eq_1, q_freeB_eq_1, q_freeT_eq_1, q_freeT_eq_2, q_freeO_eq_1, q_V_noRef_eq_1, q_V_noRef_eq_2, q_K_noRef_eq_1, q_Option_map_some, q_List_map_cons, q_List_map_nil, q_List_take_succ_cons, q_List_take_zero, q_List_drop_succ_cons, q_List_drop_zero, q_List_length_cons, q_List_length_nil, true_and, if_true, if_false, Bool.false_eq_true, Bool.and_true, Bool.or_true, Nat.reduceAdd, Nat.reduceBEq, Nat.zero_add, Nat.le_refl, q_learn_eq_1, q_condK_eq_1, q_condB_eq_2, decide_false, List.length_map, lookT_here, lookT_next, lookO_here, uf59, uf59b18, uf59r19, uf59b20, uf59b21, uf59r22, uf59b23, uf59b26, uf59r27, uf59b28, uf59b29, uf59r30, uf59b31]
    rw [uf59l17]
    refine awl_loop (fun x : Nat × Int => [(1, .int .i64 (9 - ((f + 1 : Nat) : Int))), (5, .int .i64 x.2), (11, .k (.c (.list (if (List.map encT t.args).isEmpty = true then 0 else 3) none (List.map encT t.args)))), (12, .int .i64 (t.args.length : Int)), (13, .int .i64 x.1)]) (fun _ => [])
      (fun x => x.1 ≤ t.args.length ∧ 1 ≤ x.2 ∧ x.2 ≤ 60 ∧ measL (meas f) (t.args.drop x.1) x.2 = measL (meas f) t.args 1) (fun x => t.args.length - x.1) (0, 1) rfl rfl ⟨Nat.zero_le _, by simp only []; omega, by simp only []; omega, rfl⟩ ?_
    rintro ⟨i, n⟩ ⟨hi, hn1, hn2, hj⟩
    simp only [] at hi hn1 hn2 hj
    by_cases hlt : i < t.args.length
    · have c1 : (i : Int) < t.args.length := by omega
      have c3 : IntKind.i64.wrap (9 - ((f + 1 : Nat) : Int) + 1) = 9 - (f : Int) := by rw [wrap_in (by omega) (by omega)]; omega
      have c4 : IntKind.i64.wrap ((i : Int) + 1) = (i : Int) + 1 := wrap_in (by omega) (by omega)
      simp only [encT_eq, lstC, map_len, map_isEmpty, sz_of hlt, map_at hlt, c1, c3, not_true_eq_false, q_wpLs_eq_1, q_wpLs_eq_2, q_wpL_eq_1, q_exL_eq_1, q_exL_eq_4, q_exL_eq_8, q_exL_eq_9, q_exL_eq_11, q_exL_eq_23, q_exL_eq_28, q_look_eq_1, q_look_eq_2, q_lookO_eq_1, q_insT_eq_1, q_insO_eq_1, q_awl_eq_1, q_awl_eq_2, q_awl_eq_5, q_awl_eq_6, q_awl_eq_7, q_AE_thenL_eq_1, q_putK_eq_1, q_vBin_eq_1, q_resV_eq_1, q_binV_eq_1, q_binInt_eq_3, q_cutInt_eq_1, q_cutInt_eq_8, q_partV_eq_1, q_loadO_eq_1, q_isV_eq_1, q_vLoad_eq_1, q_vLoad_eq_2, q_vIaddr_eq_1, q_ofRow_eq_2, q_pureRow_eq_1, q_pureRow_eq_2, q_V_cells_eq_2, q_splice_eq_1, q_stVarK_eq_1, q_storeK_eq_1, q_freeB_eq_1, q_freeT_eq_1, q_freeT_eq_2, q_freeO_eq_1, q_V_noRef_eq_1, q_V_noRef_eq_2, q_K_noRef_eq_1, q_K_noRef_eq_5, q_Option_map_some, q_List_map_cons, q_List_map_nil, q_List_take_succ_cons, q_List_take_zero, q_List_drop_succ_cons, q_List_drop_zero, q_List_nil_append, q_List_length_cons, q_List_length_nil, true_and, if_true, and_self, Bool.and_true, Bool.or_true, List.append_nil, Nat.reduceAdd, Nat.reduceBEq, Nat.zero_add, Int.toNat_natCast, Nat.le_refl, Int.natCast_nonneg, q_learn_eq_1, q_condK_eq_1, q_condB_eq_1, decide_true, List.length_map, lookT_here, lookT_next, lookO_here, uf59r3, uf59r7, uf59b8, uf59r9, uf59b10, uf59b11, uf59b12, uf59b13, uf59b14, uf59r15, uf59b16]
      have hb := meas_bd f t.args[i]
      have c5 : IntKind.i64.wrap (n + meas f t.args[i]) = n + meas f t.args[i] := wrap_in (by omega) (by omega)
      refine call_scalar (ih t.args[i] (by omega)) rfl (by simp [lendL, V.norm, C.norm, ← norm_T, map_isEmpty]) rfl ?_
      simp only [c4, c5, q_wpLs_eq_1, q_wpLs_eq_2, q_wpL_eq_1, q_exL_eq_1, q_exL_eq_11, q_look_eq_1, q_look_eq_2, q_insT_eq_1, q_awl_eq_1, q_awl_eq_2, q_awl_eq_5, q_awl_eq_6, q_awl_eq_9, q_awl_eq_10, q_AE_thenL_eq_1, q_AE_thenL_eq_2, q_AE_inBlockL_eq_1, q_AE_inBlockL_eq_2, q_putK_eq_1, q_vBin_eq_1, q_resV_eq_1, q_binV_eq_1, q_binInt_eq_3, q_cutInt_eq_1, q_cutInt_eq_10, q_mapT_eq_1, q_mapT_eq_2, q_mapO_eq_1, q_mapO_eq_2, q_endK_eq_2, q_endL_eq_1, q_endV_eq_1, q_resL_eq_1, q_resL_eq_2, q_resX_eq_1, q_one_eq_1, q_V_nrm_eq_1, q_V_nrm_eq_2, q_K_nrm_eq_1, q_K_nrm_eq_2, q_K_nrm_eq_3, q_O_nrm_eq_1, q_V_owns_eq_1, q_K_owns_eq_2, q_V_toNew_eq_1, q_K_toNew_eq_1, q_C_norm_eq_1, q_C_norm_eq_4, q_C_norm_eq_5, q_C_normRow_eq_1, q_C_normRow_eq_2, q_C_normRows_eq_1, q_List_map_cons, q_List_map_nil, q_List_isEmpty_nil, true_and, if_true, if_false, and_self, List.nodup_nil, Nat.reduceBEq, Nat.zero_ne_one, q_learn_eq_1, q_condK_eq_1, condB_decide, normRows_T, lookT_here, lookT_next, uf59r1, uf59b2, uf59b4, uf59r5, uf59b6]
      refine ⟨fun h6 => ?_, fun h6 => ?_⟩
      · rw [meas, ← hj, measL_drop hlt, if_pos h6]
      · refine Next.intro (i + 1, n + meas f t.args[i]) rfl rfl ⟨by simp only []; omega, by simp only []; omega, by simp only []; omega, ?_⟩ (by simp only []; omega)
        rw [← hj, measL_drop hlt, if_neg h6]
    · have c1 : ¬ (i : Int) < t.args.length := by omega
      simp only [encT_eq, lstC, map_len, c1, not_true_eq_false, not_false_eq_true, q_wpLs_eq_1, q_wpLs_eq_2, q_wpL_eq_1, q_exL_eq_1, q_exL_eq_11, q_look_eq_1, q_lookO_eq_1, q_insT_eq_1, q_awl_eq_2, q_awl_eq_5, q_awl_eq_6, q_awl_eq_9, q_awl_eq_10, q_AE_thenL_eq_1, q_AE_thenL_eq_2, q_AE_inBlockL_eq_2, q_putK_eq_1, q_vBin_eq_1, q_resV_eq_1, q_binV_eq_1, q_binInt_eq_3, q_cutInt_eq_8, q_mapT_eq_1, q_mapT_eq_2, q_mapO_eq_1, q_endK_eq_2, q_endL_eq_1, q_endV_eq_1, q_resL_eq_1, q_resL_eq_2, q_resX_eq_1, q_one_eq_1, q_V_nrm_eq_1, q_K_nrm_eq_1, q_V_owns_eq_1, q_K_owns_eq_2, q_V_toNew_eq_1, q_K_toNew_eq_1, q_C_norm_eq_1, q_C_norm_eq_4, q_C_norm_eq_5, true_and, if_true, and_self, List.nodup_nil, Nat.reduceBEq, q_learn_eq_1, q_condK_eq_1, q_condB_eq_2, decide_false, normRows_T, lookT_here, lookT_next, uf59r1, uf59b2, uf59b13, uf59b14, uf59r15, uf59b16]
      rw [meas, ← hj, List.drop_eq_nil_of_le (by omega), measL]
end Go.Abs


set_option maxRecDepth 100000
namespace Go.Abs
open Go.Proofs
theorem s72 (op : Int) : Spec Try.prog 72 [.int .i64 op] (fun r => r = shapeV op) := by
  refine Spec.of_awl hf72 okf72 (by simp) ?_
  simp only [q_wpLs_eq_1, q_wpLs_eq_2, q_wpL_eq_1, q_exL_eq_1, q_exL_eq_4, q_exL_eq_6, q_exL_eq_7, q_exL_eq_9, q_exL_eq_11, q_look_eq_1, q_look_eq_2, q_insT_eq_1, q_insO_eq_1, q_awl_eq_1, q_awl_eq_2, q_awl_eq_5, q_awl_eq_6, q_awl_eq_7, q_awl_eq_10, q_AE_thenL_eq_1, q_AE_thenL_eq_3, q_AE_inBlockL_eq_1, q_AE_inBlockL_eq_3, q_initT_eq_1, q_initT_eq_2, q_putK_eq_1, q_vBin_eq_1, q_resV_eq_1, q_binV_eq_1, q_binInt_eq_3, q_cutInt_eq_6, q_vBuild_eq_1, q_vBuild_eq_2, q_rowV_eq_1, q_ofRow_eq_2, q_pureRow_eq_3, q_V_cells_eq_1, q_V_cells_eq_3, q_splice_eq_1, q_isArrO_eq_1, q_vRow_eq_1, q_vLits_eq_1, q_vLits_eq_2, q_bsK_eq_1, q_stVarK_eq_1, q_storeK_eq_1, q_mapT_eq_1, q_mapT_eq_2, q_mapO_eq_1, q_mapO_eq_2, q_freeB_eq_1, q_freeT_eq_1, q_freeT_eq_2, q_freeO_eq_1, q_freeO_eq_2, q_V_noRef_eq_1, q_K_noRef_eq_1, q_K_noRef_eq_3, q_O_noRef_eq_1, q_endK_eq_2, q_endL_eq_1, q_endV_eq_1, q_resL_eq_1, q_resL_eq_2, q_resX_eq_2, q_resCell_eq_1, q_one_eq_1, q_V_nrm_eq_1, q_V_nrm_eq_3, q_K_nrm_eq_1, q_K_nrm_eq_3, q_O_nrm_eq_1, q_O_nrm_eq_2, q_V_owns_eq_2, q_K_owns_eq_1, q_K_owns_eq_2, q_V_toNew_eq_3, q_K_toNew_eq_1, q_K_toNew_eq_2, q_C_norm_eq_1, q_C_norm_eq_4, q_C_norm_eq_5, q_C_normRow_eq_1, q_C_normRow_eq_2, q_C_normRows_eq_1, q_C_normRows_eq_2, q_List_map_cons, q_List_map_nil, q_List_take_succ_cons, q_List_take_zero, q_List_drop_succ_cons, q_List_drop_zero, q_List_nil_append, q_List_cons_append, q_List_foldl_cons, q_List_foldl_nil, q_List_replicate_succ, q_List_replicate_zero, q_List_set_cons_zero, q_List_set_cons_succ, q_List_length_cons, q_List_length_nil, q_List_flatMap_cons, q_List_flatMap_nil, q_List_all_cons, q_List_all_nil, q_List_isEmpty_nil, true_and, if_true, forall_eq_or_imp, forall_eq, or_false, and_self, bne_iff_ne, ne_eq, Bool.and_true, Bool.true_and, Bool.or_true, Bool.false_or, Int.reduceNeg, List.append_nil, List.mem_cons, List.nodup_nil, List.nodup_cons, Nat.reduceAdd, Nat.reduceEqDiff, Nat.reduceLeDiff, Nat.reduceLT, Nat.reduceBEq, Nat.zero_add, Nat.le_refl, q_learn_eq_1, not_false_eq_true, q_condK_eq_1, q_condB_eq_1, condB_beq, lookT_here, lookT_next, lookO_here, lookO_next, List.not_mem_nil, uf72, uf72r1, uf72b2, uf72r3, uf72b4, uf72r5, uf72b6, uf72r7, uf72b8, uf72r9, uf72b10, uf72r11, uf72b12, uf72b13, uf72r14, uf72b15, uf72b16, uf72r17, uf72b18, uf72b19, uf72r20, uf72b21, uf72b22, uf72r23, uf72b24, uf72r25, uf72b26, uf72b27, uf72b28, uf72r29, uf72b30, uf72b31, uf72r32, uf72b33, uf72b34, uf72r35, uf72b36]
  repeat' (first | apply And.intro | intro _)
  all_goals simp_all [shapeV, shapeArgs, shapeRes, ints]
end Go.Abs


set_option maxRecDepth 100000
set_option maxHeartbeats 4000000
namespace Go.Abs
open Go.Proofs
theorem s60 : ∀ (f : Nat) (t : Term), Narrow f t → Spec Try.prog 60 [.agg (encT t)] (fun r => r = pairV (chk t)) := by
  intro f
  induction f with
  | zero => intro t h; exact h.elim
  | succ f ih =>
    intro t hN
    refine Spec.of_awl hf60 okf60 (by simp) ?_
    have hlen : t.args.length ≤ 1000 := hN.1
    simp only [encT_eq t, q_wpLs_eq_1, q_wpLs_eq_2, q_wpL_eq_1, q_exL_eq_1, q_exL_eq_5, q_exL_eq_8, q_exL_eq_18, q_exL_eq_21, q_exL_eq_30, q_look_eq_1, q_look_eq_2, q_insT_eq_1, q_insO_eq_1, q_awl_eq_2, q_awl_eq_5, q_awl_eq_7, q_AE_thenL_eq_1, q_initT_eq_1, q_initT_eq_2, q_putK_eq_1, q_vFaddr_eq_1, q_loadO_eq_1, q_isV_eq_1, q_vLoad_eq_1, q_ofRow_eq_1, q_pureRow_eq_1, q_pureRow_eq_2, q_isVarO_eq_1, q_boxK_eq_1, q_mkslK_eq_1, q_freeB_eq_1, q_freeT_eq_1, q_freeT_eq_2, q_freeO_eq_1, q_freeO_eq_2, q_V_noRef_eq_1, q_V_noRef_eq_2, q_K_noRef_eq_1, q_K_noRef_eq_3, q_O_noRef_eq_1, q_Option_map_some, q_List_map_cons, q_List_map_nil, q_List_take_succ_cons, q_List_take_zero, q_List_drop_succ_cons, q_List_drop_zero, q_List_length_cons, q_List_length_nil, q_List_all_cons, q_List_all_nil, true_and, if_false, Bool.false_eq_true, and_self, bne_iff_ne, ne_eq, Bool.and_eq_true, Bool.and_true, Bool.true_and, Bool.or_true, Bool.false_or, Nat.reduceAdd, Nat.reduceEqDiff, Nat.reduceBEq, Nat.zero_add, Int.toNat_natCast, Nat.le_refl, Int.natCast_nonneg, not_false_eq_true, r_vLen_lst, List.length_map, lookT_here, lookT_next, Int.cast_ofNat_Int, lookO_here, lookO_next, uf60, uf60b79, uf60r80, uf60b81, uf60b82, uf60r83, uf60b84, uf60r85, uf60b86]
    refine ⟨by omega, by omega, by omega, ?_⟩
    rw [uf60l78]
    refine awl_loop (fun x : Nat × List Int => [(1, .k (.ptr 1 0)), (4, .k (.own 16)), (18, lst 3 (t.args.map encT)), (19, .int .i64 (t.args.length : Int)), (20, .int .i64 x.1)])
      (fun x => [(1, .var 41 [.c (.int .i64 t.op), .c (.int .i64 t.n), .c (lstC 3 (t.args.map encT))]), (16, .arr 3 1 (some false) (ints x.2 ++ List.replicate (t.args.length - x.1) [.int .i64 0]))])
      (fun x => x.1 ≤ t.args.length ∧ x.2.length = x.1 ∧ chkA (t.args.drop x.1) x.2 = chkA t.args []) (fun x => t.args.length - x.1) (0, []) rfl rfl ?_ ?_
    · exact ⟨Nat.zero_le _, rfl, rfl⟩
    rintro ⟨i, ty⟩ ⟨hi, hty, hj⟩
    simp only [] at hi hty hj
    by_cases hlt : i < t.args.length
    · have c1 : (i : Int) < t.args.length := by omega
      have c4 : IntKind.i64.wrap ((i : Int) + 1) = (i : Int) + 1 := wrap_in (by omega) (by omega)
      simp only [map_at hlt, encT_len, c1, q_wpLs_eq_1, q_wpLs_eq_2, q_wpL_eq_1, q_exL_eq_1, q_exL_eq_4, q_exL_eq_8, q_exL_eq_9, q_exL_eq_11, q_exL_eq_23, q_exL_eq_28, q_look_eq_1, q_insT_eq_1, q_insO_eq_1, q_awl_eq_1, q_awl_eq_2, q_awl_eq_5, q_awl_eq_6, q_awl_eq_7, q_AE_thenL_eq_1, q_putK_eq_1, q_vBin_eq_1, q_resV_eq_1, q_binV_eq_1, q_binInt_eq_3, q_cutInt_eq_8, q_partV_eq_1, q_loadO_eq_1, q_isV_eq_1, q_vLoad_eq_1, q_vLoad_eq_2, q_V_cells_eq_2, q_splice_eq_1, q_stVarK_eq_1, q_storeK_eq_1, q_freeB_eq_1, q_freeT_eq_1, q_freeT_eq_2, q_freeO_eq_1, q_freeO_eq_2, q_V_noRef_eq_1, q_V_noRef_eq_2, q_K_noRef_eq_1, q_K_noRef_eq_2, q_K_noRef_eq_3, q_K_noRef_eq_5, q_O_noRef_eq_1, q_O_noRef_eq_2, q_List_map_cons, q_List_map_nil, q_List_take_zero, q_List_drop_succ_cons, q_List_drop_zero, q_List_nil_append, q_List_length_cons, q_List_length_nil, q_List_all_cons, q_List_all_nil, true_and, if_true, and_self, bne_iff_ne, ne_eq, Bool.and_eq_true, Bool.and_true, Bool.true_and, Bool.or_true, Bool.false_or, List.append_nil, Nat.reduceAdd, Nat.reduceEqDiff, Nat.reduceBEq, Nat.zero_add, Int.toNat_natCast, Nat.le_refl, Int.natCast_nonneg, q_learn_eq_1, not_false_eq_true, q_condK_eq_1, q_condB_eq_1, decide_true, r_vIaddr_lst, List.length_map, r_ofRow_take, encT_len, lookT_here, lookT_next, lookO_here, uf60r60, uf60r68, uf60b69, uf60r70, uf60b71, uf60b72, uf60b73, uf60b74, uf60b75, uf60r76, uf60b77]
      refine call_s (ih t.args[i] (hN.2 _ (List.getElem_mem hlt))) ?_
      simp only [c4, pairV, q_wpLs_eq_1, q_wpLs_eq_2, q_wpL_eq_1, q_exL_eq_1, q_exL_eq_9, q_exL_eq_11, q_exL_eq_23, q_exL_eq_27, q_look_eq_1, q_look_eq_2, q_insT_eq_1, q_insO_eq_1, q_awl_eq_1, q_awl_eq_2, q_awl_eq_5, q_awl_eq_6, q_awl_eq_10, q_AE_thenL_eq_1, q_AE_thenL_eq_3, q_AE_inBlockL_eq_1, q_AE_inBlockL_eq_3, q_putK_eq_1, q_vBin_eq_1, q_resV_eq_1, q_binV_eq_1, q_binInt_eq_3, q_cutInt_eq_1, q_cutInt_eq_7, q_vExtr_eq_1, q_vIaddr_eq_2, q_idxO_eq_1, q_splice_eq_1, q_vRow_eq_1, q_stArrK_eq_1, q_storeK_eq_2, q_mapT_eq_1, q_mapT_eq_2, q_mapO_eq_1, q_mapO_eq_2, q_endK_eq_2, q_endL_eq_1, q_endV_eq_1, q_resL_eq_1, q_resL_eq_2, q_resX_eq_1, q_one_eq_2, q_V_nrm_eq_1, q_V_nrm_eq_2, q_V_nrm_eq_4, q_K_nrm_eq_1, q_K_nrm_eq_2, q_K_nrm_eq_3, q_V_nrmL_eq_1, q_V_nrmL_eq_2, q_O_nrm_eq_1, q_O_nrm_eq_2, q_V_owns_eq_1, q_V_owns_eq_3, q_K_owns_eq_2, q_V_ownsL_eq_1, q_V_ownsL_eq_2, q_V_toNew_eq_1, q_V_toNew_eq_4, q_K_toNew_eq_1, q_V_toNewL_eq_1, q_V_toNewL_eq_2, q_C_norm_eq_1, q_C_norm_eq_4, q_C_norm_eq_5, q_C_normRows_eq_1, q_List_map_cons, q_List_map_nil, q_List_take_zero, q_List_nil_append, q_List_cons_append, q_List_length_cons, q_List_length_nil, q_List_getElemQ_cons_zero, q_List_getElemQ_cons_succ, q_List_isEmpty_nil, true_and, and_true, if_true, and_self, List.append_nil, List.nodup_nil, Nat.reduceBEq, Nat.zero_add, Int.toNat_natCast, Nat.le_refl, Int.natCast_nonneg, q_learn_eq_1, q_condK_eq_1, condB_bne, norm_lst, normRows_T, encT_norm, lookT_here, lookT_next, lookO_here, lookO_next, r_map_nrm, uf60r61, uf60r62, uf60b63, uf60b64, uf60r65, uf60b66, uf60b67]
      refine ⟨fun h6 => ?_, fun h6 => ⟨?_, ?_⟩⟩
      · rw [chkA_drop hlt, if_pos h6] at hj
        rw [chk_eq t, ← hj]
        simp [h6]
      · simp [hty]; omega
      · refine Next.intro (i + 1, ty ++ [(chk t.args[i]).1]) rfl ?_ ⟨by simp only []; omega, by simp [hty], ?_⟩ (by simp only []; omega)
        · rw [set_at hty hlt]; rfl
        · rw [chkA_drop hlt, if_neg (by simp [h6])] at hj
          exact hj
    · have c1 : ¬ (i : Int) < t.args.length := by omega
      have hz : t.args.length - i = 0 := by omega
      simp only [c1, hz, List.replicate_zero, q_wpLs_eq_1, q_wpLs_eq_2, q_wpL_eq_1, q_putDL_eq_1, q_AOp_dst_eq_8, q_AOp_dst_eq_10, q_AOp_dst_eq_20, q_exL_eq_1, q_exL_eq_3, q_exL_eq_8, q_exL_eq_11, q_exL_eq_21, q_exL_eq_28, q_look_eq_1, q_look_eq_2, q_insT_eq_1, q_awl_eq_1, q_awl_eq_2, q_awl_eq_5, q_awl_eq_6, q_awl_eq_7, q_awl_eq_9, q_awl_eq_10, q_AE_thenL_eq_1, q_AE_thenL_eq_2, q_AE_thenL_eq_3, q_AE_inBlockL_eq_1, q_AE_inBlockL_eq_2, q_AE_inBlockL_eq_3, q_putK_eq_1, q_vBin_eq_1, q_resV_eq_1, q_binV_eq_1, q_binInt_eq_3, q_cutInt_eq_6, q_cutInt_eq_8, q_cutInt_eq_10, q_vFaddr_eq_1, q_loadO_eq_1, q_isV_eq_1, q_vLoad_eq_1, q_vPick_eq_1, q_vPick_eq_2, q_ofRow_eq_1, q_ofRow_eq_2, q_pureRow_eq_1, q_pureRow_eq_2, q_isVarO_eq_1, q_mapT_eq_1, q_mapT_eq_2, q_mapO_eq_1, q_mapO_eq_2, q_endK_eq_2, q_endL_eq_1, q_endV_eq_1, q_resL_eq_1, q_resL_eq_2, q_resX_eq_1, q_one_eq_2, q_V_nrm_eq_1, q_V_nrm_eq_5, q_K_nrm_eq_1, q_K_nrm_eq_3, q_O_nrm_eq_1, q_O_nrm_eq_2, q_V_owns_eq_1, q_V_owns_eq_3, q_K_owns_eq_2, q_V_ownsL_eq_1, q_V_ownsL_eq_2, q_V_toNew_eq_1, q_V_toNew_eq_4, q_K_toNew_eq_1, q_V_toNewL_eq_1, q_V_toNewL_eq_2, q_C_norm_eq_4, q_C_norm_eq_5, q_Bool_not_false, q_Option_map_some, q_List_map_cons, q_List_map_nil, q_List_take_succ_cons, q_List_take_zero, q_List_drop_zero, q_List_length_cons, q_List_length_nil, true_and, if_true, if_false, Bool.false_eq_true, and_self, List.append_nil, List.nodup_nil, Nat.reduceAdd, Nat.reduceLeDiff, Nat.reduceBEq, Nat.zero_add, Nat.add_zero, Nat.le_refl, q_learn_eq_1, q_guardP_eq_2, q_condK_eq_1, q_condB_eq_1, q_condB_eq_2, q_exK_eq_1, condB_decide, condB_beq, decide_false, norm_lst, normRows_T, normRows_ints, lookT_here, lookT_next, lookO_here, uf60r46, uf60b47, uf60r48, uf60b49, uf60r50, uf60b51, uf60b52, uf60r53, uf60b54, uf60b55, uf60r56, uf60b57, uf60b58, uf60b59, uf60b74, uf60b75, uf60r76, uf60b77]
      rw [List.drop_eq_nil_of_le (by omega), chkA] at hj
      have e : chk t = node t ty := by rw [chk_eq t, ← hj]; simp
      rw [e]
      clear ih hj e
      repeat' (first | with_reducible refine And.intro ?_ ?_ | with_reducible intro _)
      any_goals (refine call_s (s71 t) ?_; simp only [pairV, q_wpLs_eq_1, q_wpLs_eq_2, q_wpL_eq_1, q_exL_eq_1, q_exL_eq_27, q_look_eq_1, q_insT_eq_1, q_awl_eq_10, q_AE_thenL_eq_3, q_AE_inBlockL_eq_3, q_putK_eq_1, q_vExtr_eq_1, q_mapT_eq_1, q_mapT_eq_2, q_mapO_eq_1, q_mapO_eq_2, q_endK_eq_2, q_endL_eq_1, q_endV_eq_1, q_resL_eq_1, q_resL_eq_2, q_resX_eq_1, q_one_eq_2, q_V_nrm_eq_1, q_V_nrm_eq_2, q_V_nrm_eq_4, q_V_nrm_eq_5, q_K_nrm_eq_1, q_K_nrm_eq_3, q_V_nrmL_eq_1, q_V_nrmL_eq_2, q_O_nrm_eq_1, q_O_nrm_eq_2, q_V_owns_eq_1, q_V_owns_eq_3, q_K_owns_eq_2, q_V_ownsL_eq_1, q_V_ownsL_eq_2, q_V_toNew_eq_1, q_V_toNew_eq_4, q_K_toNew_eq_1, q_V_toNewL_eq_1, q_V_toNewL_eq_2, q_C_norm_eq_4, q_C_norm_eq_5, q_C_normRow_eq_1, q_C_normRow_eq_2, q_List_map_cons, q_List_map_nil, q_List_getElemQ_cons_zero, q_List_getElemQ_cons_succ, true_and, and_self, List.append_nil, List.nodup_nil, Nat.reduceBEq, norm_lst, normRows_T, normRows_ints, lookT_here, lookT_next])
      all_goals try (simp_all [node, pairV]; done)
      refine call_r (s72 t.op) ?_
      simp only [shapeV, q_wpLs_eq_1, q_wpLs_eq_2, q_wpL_eq_1, q_putDL_eq_1, q_AOp_dst_eq_8, q_AOp_dst_eq_10, q_AOp_dst_eq_20, q_exL_eq_1, q_exL_eq_3, q_exL_eq_4, q_exL_eq_8, q_exL_eq_9, q_exL_eq_11, q_exL_eq_21, q_exL_eq_30, q_look_eq_1, q_look_eq_2, q_lookT_eq_1, q_insT_eq_1, q_insO_eq_1, q_awl_eq_1, q_awl_eq_2, q_awl_eq_5, q_awl_eq_6, q_awl_eq_7, q_awl_eq_10, q_AE_thenL_eq_1, q_AE_thenL_eq_3, q_putK_eq_1, q_vBin_eq_1, q_resV_eq_1, q_binV_eq_1, q_binInt_eq_3, q_cutInt_eq_7, q_vLen_eq_2, q_lenO_eq_1, q_vFaddr_eq_1, q_loadO_eq_1, q_isV_eq_1, q_vLoad_eq_1, q_vPick_eq_1, q_vPick_eq_2, q_ofRow_eq_1, q_pureRow_eq_1, q_pureRow_eq_2, q_pureRow_eq_3, q_V_cells_eq_3, q_splice_eq_1, q_isVarO_eq_1, q_stVarK_eq_1, q_storeK_eq_1, q_mapT_eq_1, q_mapT_eq_2, q_mapO_eq_1, q_mapO_eq_2, q_freeB_eq_1, q_freeT_eq_1, q_freeT_eq_2, q_freeO_eq_1, q_freeO_eq_2, q_V_noRef_eq_1, q_V_noRef_eq_3, q_V_noRef_eq_6, q_K_noRef_eq_1, q_K_noRef_eq_2, q_K_noRef_eq_3, q_O_noRef_eq_1, q_O_noRef_eq_2, q_endK_eq_2, q_endL_eq_1, q_endV_eq_1, q_resL_eq_1, q_resL_eq_2, q_resX_eq_1, q_one_eq_2, q_V_nrm_eq_1, q_V_nrm_eq_3, q_V_nrm_eq_5, q_K_nrm_eq_1, q_K_nrm_eq_3, q_O_nrm_eq_1, q_O_nrm_eq_2, q_V_owns_eq_1, q_V_owns_eq_3, q_K_owns_eq_2, q_V_ownsL_eq_1, q_V_ownsL_eq_2, q_V_toNew_eq_1, q_V_toNew_eq_4, q_K_toNew_eq_1, q_V_toNewL_eq_1, q_V_toNewL_eq_2, q_C_norm_eq_1, q_C_norm_eq_4, q_C_norm_eq_5, q_C_normRows_eq_1, q_regN_eq_2, q_V_reg_eq_2, q_K_regs_eq_1, q_K_regs_eq_2, q_K_regs_eq_3, q_freesL_eq_1, q_freesL_eq_2, q_addsL_eq_1, q_addsL_eq_2, q_regK_eq_1, q_retK_eq_2, q_Bool_not_false, q_Option_map_some, q_List_map_cons, q_List_map_nil, q_List_take_succ_cons, q_List_take_zero, q_List_drop_succ_cons, q_List_drop_zero, q_List_nil_append, q_List_length_cons, q_List_length_nil, q_List_all_cons, q_List_all_nil, q_List_isEmpty_nil, true_and, if_true, if_false, Bool.false_eq_true, or_true, and_self, bne_iff_ne, ne_eq, Bool.and_eq_true, Bool.and_true, Bool.true_and, Bool.or_true, Bool.false_or, Int.reduceNeg, List.append_nil, List.nodup_nil, Nat.reduceAdd, Nat.reduceMul, Nat.reduceEqDiff, Nat.reduceLeDiff, Nat.reduceBEq, Nat.zero_add, Nat.add_zero, Nat.le_refl, q_learn_eq_1, not_false_eq_true, q_guardP_eq_2, q_condK_eq_1, q_condB_eq_1, q_condB_eq_2, q_exK_eq_1, condB_bne, norm_lst, normRows_T, normRows_ints, ints_len, lookT_here, lookT_next, lookO_here, lookO_next, uf60b34, uf60r35, uf60b36, uf60b37, uf60r38, uf60b39, uf60r40, uf60b41, uf60b42, uf60r43, uf60b44, uf60b45]
      refine ⟨fun h1 => ?_, fun h1 => ⟨fun h2 => ?_, fun h2 => ?_⟩⟩
      · have h1' : ty.length ≠ (shapeArgs t.op).length := by omega
        have a1 : ¬ (t.op < 0 ∨ t.op > 13) := by omega
        have a2 : ¬ (t.op = 0 ∨ t.op = 1 ∨ t.op = 2) := by omega
        simp only [node, pairV, if_neg a1, if_neg a2, if_pos (Or.inl h1' : ty.length ≠ (shapeArgs t.op).length ∨ t.n ≠ 0)]
      · have a1 : ¬ (t.op < 0 ∨ t.op > 13) := by omega
        have a2 : ¬ (t.op = 0 ∨ t.op = 1 ∨ t.op = 2) := by omega
        simp only [node, pairV, if_neg a1, if_neg a2, if_pos (Or.inr h2 : ty.length ≠ (shapeArgs t.op).length ∨ t.n ≠ 0)]
      · have hl : ty.length = (shapeArgs t.op).length := by omega
        have hs3 := shape_small t.op
        have hnode : node t ty = match fit (shapeArgs t.op) ty (-1) with
            | none => (0, 11)
            | some c => if shapeRes t.op = -1 then (c, 0) else (shapeRes t.op, 0) := by
          have a1 : ¬ (t.op < 0 ∨ t.op > 13) := by omega
          have a2 : ¬ (t.op = 0 ∨ t.op = 1 ∨ t.op = 2) := by omega
          simp only [node, if_neg a1, if_neg a2, hl, h2, ne_eq, not_true_eq_false, or_self, if_false]
          all_goals rfl
        rw [uf60l33]
        refine awl_loop (fun x : Nat × Int => [(4, .k (.own 16)), (9, .k (.ptr 9 0)), (10, .int .i64 x.2), (80, .k (.own 68000)), (81, .int .i64 ((shapeArgs t.op).length : Int)), (82, .int .i64 x.1)])
          (fun _ => [(9, .var 92 [.own 68000, .c (.int .i64 (shapeRes t.op))]), (16, .arr 3 1 (some false) (ints ty)), (68000, .arr 3 1 none (ints (shapeArgs t.op)))])
          (fun x => x.1 ≤ (shapeArgs t.op).length ∧ fit ((shapeArgs t.op).drop x.1) (ty.drop x.1) x.2 = fit (shapeArgs t.op) ty (-1)) (fun x => (shapeArgs t.op).length - x.1) (0, -1) rfl rfl ⟨Nat.zero_le _, rfl⟩ ?_
        rintro ⟨j, c⟩ ⟨hj1, hj2⟩
        simp only [] at hj1 hj2
        by_cases hlj : j < (shapeArgs t.op).length
        · have d1 : (j : Int) < (shapeArgs t.op).length := by omega
          have hlj2 : j < ty.length := by omega
          have d2 : (j : Int) < ty.length := by omega
          have d4 : IntKind.i64.wrap ((j : Int) + 1) = (j : Int) + 1 := wrap_in (by omega) (by omega)
          rw [fit_drop hlj hlj2] at hj2
          have hfail : ty[j] ≠ (if (shapeArgs t.op)[j] = -1 then (if (shapeArgs t.op)[j] = -1 ∧ c = -1 then ty[j] else c) else (shapeArgs t.op)[j]) → pairV (node t ty) = pairV (0, 11) := by
            intro hne
            rw [if_pos hne] at hj2
            rw [hnode, ← hj2]
          have hgo : ∀ c', c' = (if (shapeArgs t.op)[j] = -1 ∧ c = -1 then ty[j] else c) → ¬ (ty[j] ≠ (if (shapeArgs t.op)[j] = -1 then (if (shapeArgs t.op)[j] = -1 ∧ c = -1 then ty[j] else c) else (shapeArgs t.op)[j])) → fit ((shapeArgs t.op).drop (j + 1)) (ty.drop (j + 1)) c' = fit (shapeArgs t.op) ty (-1) := by
            rintro c' rfl hne
            rw [if_neg hne] at hj2; exact hj2
          clear hj2 hnode
          by_cases hw : (shapeArgs t.op)[j] = -1 <;> by_cases hc : c = -1
          all_goals simp only [hw, hc, true_and, false_and, and_true, and_false, if_true, if_false, not_true_eq_false, not_false_eq_true, ne_eq] at hfail hgo
          · simp only [d1, d2, d4, hw, hc, ints_at hlj, ints_at hlj2, q_wpLs_eq_1, q_wpLs_eq_2, q_wpL_eq_1, q_AOp_dst_eq_1, q_AOp_dst_eq_10, q_exL_eq_1, q_exL_eq_3, q_exL_eq_8, q_exL_eq_11, q_exL_eq_23, q_look_eq_1, q_look_eq_2, q_insT_eq_1, q_awl_eq_1, q_awl_eq_2, q_awl_eq_5, q_awl_eq_6, q_awl_eq_7, q_awl_eq_10, q_AE_thenL_eq_1, q_AE_thenL_eq_3, q_AE_inBlockL_eq_1, q_AE_inBlockL_eq_3, q_putK_eq_1, q_vBin_eq_1, q_resV_eq_1, q_binV_eq_1, q_binInt_eq_3, q_cutInt_eq_1, q_cutInt_eq_6, q_cutInt_eq_7, q_cutInt_eq_8, q_partV_eq_2, q_loadO_eq_2, q_isA_eq_1, q_vLoad_eq_3, q_vIaddr_eq_2, q_idxO_eq_1, q_vPick_eq_1, q_mapT_eq_1, q_mapT_eq_2, q_mapO_eq_1, q_mapO_eq_2, q_endK_eq_2, q_endL_eq_1, q_endV_eq_1, q_resL_eq_1, q_resL_eq_2, q_resX_eq_1, q_one_eq_2, q_V_nrm_eq_1, q_K_nrm_eq_1, q_K_nrm_eq_3, q_O_nrm_eq_1, q_O_nrm_eq_2, q_V_owns_eq_1, q_V_owns_eq_3, q_K_owns_eq_2, q_V_ownsL_eq_1, q_V_ownsL_eq_2, q_V_toNew_eq_1, q_V_toNew_eq_4, q_K_toNew_eq_1, q_V_toNewL_eq_1, q_V_toNewL_eq_2, q_C_norm_eq_4, q_C_norm_eq_5, q_Bool_not_true, q_List_map_cons, q_List_map_nil, q_List_getD_cons_zero, true_and, if_true, false_implies, forall_const, and_self, Int.reduceNeg, BEq.rfl, List.append_nil, List.nodup_nil, Nat.reduceBEq, Nat.zero_add, Int.toNat_natCast, Nat.le_refl, Int.natCast_nonneg, q_learn_eq_1, not_true_eq_false, q_guardP_eq_1, q_condK_eq_1, q_condB_eq_1, q_exK_eq_1, condB_bne, decide_true, normRows_ints, ints_len, lookT_here, lookT_next, lookO_here, lookO_next, uf60r9, uf60r10, uf60b11, uf60b12, uf60r13, uf60b14, uf60r15, uf60b16, uf60r17, uf60b18, uf60b19, uf60r20, uf60b21, uf60r22, uf60b23, uf60b24, uf60r25, uf60b26, uf60b27, uf60b28, uf60b29, uf60b30, uf60r31, uf60b32]
            exact Next.intro (j + 1, ty[j]) rfl rfl ⟨by simp only []; omega, hgo _ rfl (by simp)⟩ (by simp only []; omega)
          · simp only [d1, d2, d4, hw, hc, ints_at hlj, ints_at hlj2, q_wpLs_eq_1, q_wpLs_eq_2, q_wpL_eq_1, q_AOp_dst_eq_1, q_AOp_dst_eq_10, q_exL_eq_1, q_exL_eq_3, q_exL_eq_8, q_exL_eq_11, q_exL_eq_23, q_look_eq_1, q_look_eq_2, q_insT_eq_1, q_awl_eq_1, q_awl_eq_2, q_awl_eq_5, q_awl_eq_6, q_awl_eq_7, q_awl_eq_10, q_AE_thenL_eq_1, q_AE_thenL_eq_3, q_AE_inBlockL_eq_1, q_AE_inBlockL_eq_3, q_putK_eq_1, q_vBin_eq_1, q_resV_eq_1, q_binV_eq_1, q_binInt_eq_3, q_cutInt_eq_1, q_cutInt_eq_6, q_cutInt_eq_7, q_cutInt_eq_8, q_partV_eq_2, q_loadO_eq_2, q_isA_eq_1, q_vLoad_eq_3, q_vIaddr_eq_2, q_idxO_eq_1, q_vPick_eq_1, q_mapT_eq_1, q_mapT_eq_2, q_mapO_eq_1, q_mapO_eq_2, q_endK_eq_2, q_endL_eq_1, q_endV_eq_1, q_resL_eq_1, q_resL_eq_2, q_resX_eq_1, q_one_eq_2, q_V_nrm_eq_1, q_K_nrm_eq_1, q_K_nrm_eq_3, q_O_nrm_eq_1, q_O_nrm_eq_2, q_V_owns_eq_1, q_V_owns_eq_3, q_K_owns_eq_2, q_V_ownsL_eq_1, q_V_ownsL_eq_2, q_V_toNew_eq_1, q_V_toNew_eq_4, q_K_toNew_eq_1, q_V_toNewL_eq_1, q_V_toNewL_eq_2, q_C_norm_eq_4, q_C_norm_eq_5, q_Bool_not_true, q_List_map_cons, q_List_map_nil, q_List_getD_cons_zero, true_and, if_true, false_implies, forall_const, and_self, Int.reduceNeg, BEq.rfl, List.append_nil, List.nodup_nil, Nat.reduceBEq, Nat.zero_add, Int.toNat_natCast, Nat.le_refl, Int.natCast_nonneg, q_learn_eq_1, not_true_eq_false, not_false_eq_true, q_guardP_eq_1, q_condK_eq_1, q_condB_eq_1, q_exK_eq_1, condB_beq, condB_bne, decide_true, normRows_ints, ints_len, lookT_here, lookT_next, lookO_here, lookO_next, uf60r9, uf60r10, uf60b11, uf60b12, uf60r13, uf60b14, uf60r15, uf60b16, uf60r17, uf60b18, uf60b19, uf60r20, uf60b21, uf60r22, uf60b23, uf60b24, uf60r25, uf60b26, uf60b27, uf60b28, uf60b29, uf60b30, uf60r31, uf60b32]
            refine ⟨fun h => ?_, fun h => ?_⟩
            · rw [hfail h]; rfl
            · exact Next.intro (j + 1, c) rfl rfl ⟨by simp only []; omega, hgo _ rfl (by simp [h])⟩ (by simp only []; omega)
          · simp only [d1, d2, d4, hw, hc, ints_at hlj, ints_at hlj2, q_wpLs_eq_1, q_wpLs_eq_2, q_wpL_eq_1, q_putDL_eq_1, q_AOp_dst_eq_1, q_AOp_dst_eq_10, q_exL_eq_1, q_exL_eq_3, q_exL_eq_8, q_exL_eq_11, q_exL_eq_23, q_look_eq_1, q_look_eq_2, q_insT_eq_1, q_awl_eq_1, q_awl_eq_2, q_awl_eq_5, q_awl_eq_6, q_awl_eq_7, q_awl_eq_10, q_AE_thenL_eq_1, q_AE_thenL_eq_3, q_AE_inBlockL_eq_1, q_AE_inBlockL_eq_3, q_putK_eq_1, q_vBin_eq_1, q_resV_eq_1, q_binV_eq_1, q_binInt_eq_3, q_cutInt_eq_1, q_cutInt_eq_6, q_cutInt_eq_7, q_cutInt_eq_8, q_partV_eq_2, q_loadO_eq_2, q_isA_eq_1, q_vLoad_eq_3, q_vIaddr_eq_2, q_idxO_eq_1, q_vPick_eq_1, q_vPick_eq_3, q_mapT_eq_1, q_mapT_eq_2, q_mapO_eq_1, q_mapO_eq_2, q_endK_eq_2, q_endL_eq_1, q_endV_eq_1, q_resL_eq_1, q_resL_eq_2, q_resX_eq_1, q_one_eq_2, q_V_nrm_eq_1, q_V_nrm_eq_5, q_K_nrm_eq_1, q_K_nrm_eq_3, q_O_nrm_eq_1, q_O_nrm_eq_2, q_V_owns_eq_1, q_V_owns_eq_3, q_K_owns_eq_2, q_V_ownsL_eq_1, q_V_ownsL_eq_2, q_V_toNew_eq_1, q_V_toNew_eq_4, q_K_toNew_eq_1, q_V_toNewL_eq_1, q_V_toNewL_eq_2, q_C_norm_eq_4, q_C_norm_eq_5, q_Bool_not_true, q_List_map_cons, q_List_map_nil, q_List_getD_cons_zero, true_and, if_true, false_implies, forall_const, and_self, Int.reduceNeg, BEq.rfl, List.append_nil, List.nodup_nil, Nat.reduceBEq, Nat.zero_add, Int.toNat_natCast, Nat.le_refl, Int.natCast_nonneg, q_learn_eq_1, not_true_eq_false, not_false_eq_true, q_guardP_eq_1, q_condK_eq_1, q_condB_eq_1, q_condB_eq_2, q_exK_eq_1, condB_beq, condB_bne, decide_true, normRows_ints, ints_len, lookT_here, lookT_next, lookO_here, lookO_next, uf60r9, uf60r10, uf60b11, uf60b12, uf60r13, uf60b14, uf60r15, uf60b16, uf60r17, uf60b18, uf60b19, uf60r20, uf60b21, uf60r22, uf60b23, uf60b24, uf60r25, uf60b26, uf60b27, uf60b28, uf60b29, uf60b30, uf60r31, uf60b32]
            refine ⟨fun h => ?_, fun h => ?_⟩
            · rw [hfail h]; rfl
            · exact Next.intro (j + 1, -1) rfl rfl ⟨by simp only []; omega, hgo _ rfl (by simp [h])⟩ (by simp only []; omega)
          · simp only [d1, d2, d4, hw, hc, ints_at hlj, ints_at hlj2, q_wpLs_eq_1, q_wpLs_eq_2, q_wpL_eq_1, q_putDL_eq_1, q_AOp_dst_eq_1, q_AOp_dst_eq_10, q_exL_eq_1, q_exL_eq_3, q_exL_eq_8, q_exL_eq_11, q_exL_eq_23, q_look_eq_1, q_look_eq_2, q_insT_eq_1, q_awl_eq_1, q_awl_eq_2, q_awl_eq_5, q_awl_eq_6, q_awl_eq_7, q_awl_eq_10, q_AE_thenL_eq_1, q_AE_thenL_eq_3, q_AE_inBlockL_eq_1, q_AE_inBlockL_eq_3, q_putK_eq_1, q_vBin_eq_1, q_resV_eq_1, q_binV_eq_1, q_binInt_eq_3, q_cutInt_eq_1, q_cutInt_eq_6, q_cutInt_eq_7, q_cutInt_eq_8, q_partV_eq_2, q_loadO_eq_2, q_isA_eq_1, q_vLoad_eq_3, q_vIaddr_eq_2, q_idxO_eq_1, q_vPick_eq_1, q_vPick_eq_3, q_mapT_eq_1, q_mapT_eq_2, q_mapO_eq_1, q_mapO_eq_2, q_endK_eq_2, q_endL_eq_1, q_endV_eq_1, q_resL_eq_1, q_resL_eq_2, q_resX_eq_1, q_one_eq_2, q_V_nrm_eq_1, q_V_nrm_eq_5, q_K_nrm_eq_1, q_K_nrm_eq_3, q_O_nrm_eq_1, q_O_nrm_eq_2, q_V_owns_eq_1, q_V_owns_eq_3, q_K_owns_eq_2, q_V_ownsL_eq_1, q_V_ownsL_eq_2, q_V_toNew_eq_1, q_V_toNew_eq_4, q_K_toNew_eq_1, q_V_toNewL_eq_1, q_V_toNewL_eq_2, q_C_norm_eq_4, q_C_norm_eq_5, q_Bool_not_true, q_List_map_cons, q_List_map_nil, q_List_getD_cons_zero, true_and, if_true, false_implies, forall_const, and_self, Int.reduceNeg, List.append_nil, List.nodup_nil, Nat.reduceBEq, Nat.zero_add, Int.toNat_natCast, Nat.le_refl, Int.natCast_nonneg, q_learn_eq_1, not_true_eq_false, not_false_eq_true, q_guardP_eq_1, q_condK_eq_1, q_condB_eq_1, q_condB_eq_2, q_exK_eq_1, condB_beq, condB_bne, decide_true, normRows_ints, ints_len, lookT_here, lookT_next, lookO_here, lookO_next, uf60r9, uf60r10, uf60b11, uf60b12, uf60r13, uf60b14, uf60r15, uf60b16, uf60r17, uf60b18, uf60b19, uf60r20, uf60b21, uf60r22, uf60b23, uf60b24, uf60r25, uf60b26, uf60b27, uf60b28, uf60b29, uf60b30, uf60r31, uf60b32]
            refine ⟨fun h => ?_, fun h => ?_⟩
            · rw [hfail h]; rfl
            · exact Next.intro (j + 1, c) rfl rfl ⟨by simp only []; omega, hgo _ rfl (by simp [h])⟩ (by simp only []; omega)
        · have d1 : ¬ (j : Int) < (shapeArgs t.op).length := by omega
          rw [fit_end _ _ _ (List.drop_eq_nil_of_le (by omega))] at hj2
          simp only [d1, q_wpLs_eq_1, q_wpLs_eq_2, q_wpL_eq_1, q_exL_eq_1, q_exL_eq_8, q_exL_eq_11, q_exL_eq_21, q_look_eq_1, q_look_eq_2, q_insT_eq_1, q_awl_eq_1, q_awl_eq_2, q_awl_eq_5, q_awl_eq_6, q_awl_eq_9, q_awl_eq_10, q_AE_thenL_eq_1, q_AE_thenL_eq_2, q_AE_thenL_eq_3, q_AE_inBlockL_eq_2, q_putK_eq_1, q_vBin_eq_1, q_resV_eq_1, q_binV_eq_1, q_binInt_eq_3, q_cutInt_eq_6, q_cutInt_eq_8, q_vFaddr_eq_1, q_loadO_eq_1, q_isV_eq_1, q_vLoad_eq_1, q_ofRow_eq_1, q_pureRow_eq_1, q_pureRow_eq_2, q_isVarO_eq_1, q_mapT_eq_1, q_mapT_eq_2, q_mapO_eq_1, q_mapO_eq_2, q_endK_eq_2, q_endL_eq_1, q_endV_eq_1, q_resL_eq_1, q_resL_eq_2, q_resX_eq_1, q_one_eq_2, q_V_nrm_eq_1, q_K_nrm_eq_1, q_K_nrm_eq_3, q_O_nrm_eq_1, q_O_nrm_eq_2, q_V_owns_eq_1, q_V_owns_eq_3, q_K_owns_eq_2, q_V_ownsL_eq_1, q_V_ownsL_eq_2, q_V_toNew_eq_1, q_V_toNew_eq_4, q_K_toNew_eq_1, q_V_toNewL_eq_1, q_V_toNewL_eq_2, q_C_norm_eq_4, q_C_norm_eq_5, q_Option_map_some, q_List_map_cons, q_List_map_nil, q_List_take_succ_cons, q_List_take_zero, q_List_drop_succ_cons, q_List_drop_zero, q_List_length_cons, q_List_length_nil, true_and, if_true, if_false, Bool.false_eq_true, and_self, Int.reduceNeg, List.append_nil, List.nodup_nil, Nat.reduceAdd, Nat.reduceBEq, Nat.zero_add, Nat.le_refl, q_learn_eq_1, q_condK_eq_1, q_condB_eq_2, condB_beq, decide_false, normRows_ints, lookT_here, lookT_next, lookO_here, uf60r1, uf60b2, uf60r3, uf60b4, uf60b5, uf60r6, uf60b7, uf60b8, uf60b29, uf60b30, uf60r31, uf60b32]
          rw [hnode, ← hj2]
          refine ⟨fun h => ?_, fun h => ?_⟩ <;> simp [pairV, h]
end Go.Abs


set_option maxRecDepth 100000
set_option maxHeartbeats 4000000
namespace Go.Abs
open Go.Proofs
def kindK (op : Int) (l : List Int) : Int := if op = 3 ∨ op = 4 ∨ op = 5 ∨ op = 7 ∨ op = 8 then 1 else if op = 6 then l.getD 1 0 else 0
def kindB (op : Int) (l : List Int) : Bool :=
  if op = 3 then decide (l.getD 0 0 = 1) else if op = 4 ∨ op = 5 then decide (l.getD 0 0 = 1 ∧ l.getD 1 0 = 1) else if op = 6 then decide (l.getD 0 0 = 1 ∧ l.getD 1 0 = l.getD 2 0)
  else if op = 8 then decide (l.getD 0 0 = l.getD 1 0) else decide (l.getD 0 0 = 0 ∧ l.getD 1 0 = 0)
theorem list1 {α : Type} {l : List α} (h : l.length = 1) : ∃ a, l = [a] := by
  match l, h with
  | [a], _ => exact ⟨a, rfl⟩
theorem list2 {α : Type} {l : List α} (h : l.length = 2) : ∃ a b, l = [a, b] := by
  match l, h with
  | [a, b], _ => exact ⟨a, b, rfl⟩
theorem list3 {α : Type} {l : List α} (h : l.length = 3) : ∃ a b c, l = [a, b, c] := by
  match l, h with
  | [a, b, c], _ => exact ⟨a, b, c, rfl⟩
theorem beq_dec (a b : Int) : (a == b) = decide (a = b) := by by_cases h : a = b <;> simp [h]
theorem s75 (op : Int) (l : List Int) (h1 : 3 ≤ op) (hl : (l.length : Int) = arity op) : Spec Try.prog 75 [.int .i64 op, lst 1 (ints l)] (fun r => r = .tup [.int .i64 (kindK op l), .bool (kindB op l)]) := by
  by_cases e3 : op = 3
  · subst e3
    have h2 : l.length = 1 := by simp [arity] at hl; omega
    obtain ⟨a, rfl⟩ := list1 h2
    refine Spec.of_awl hf75 okf75 (by simp) ?_
    simp only [ints, List.map_cons, List.map_nil, List.length_cons, List.length_nil, List.getD_cons_zero, List.getD_cons_succ, q_wpLs_eq_1, q_wpLs_eq_2, q_wpLQs_eq_1, q_wpLQs_eq_2, q_wpL_eq_1, q_wpLQ_eq_1, q_exL_eq_1, q_exL_eq_11, q_exLQ_eq_1, q_exLQ_eq_9, q_exLQ_eq_12, q_exLQ_eq_24, q_look_eq_1, q_look_eq_2, q_lookO_eq_1, q_insT_eq_1, q_awl_eq_2, q_awl_eq_3, q_awl_eq_5, q_awl_eq_6, q_awl_eq_7, q_awl_eq_10, q_AE_thenL_eq_1, q_AE_thenL_eq_3, q_AE_inBlockL_eq_3, q_initT_eq_1, q_initT_eq_2, q_putK_eq_1, q_vBin_eq_1, q_resV_eq_1, q_binV_eq_1, q_binInt_eq_3, q_cutInt_eq_6, q_partV_eq_2, q_vLoad_eq_2, q_mapT_eq_1, q_mapT_eq_2, q_mapO_eq_1, q_endK_eq_2, q_endL_eq_1, q_endV_eq_1, q_resL_eq_1, q_resL_eq_2, q_resX_eq_1, q_one_eq_2, q_V_nrm_eq_1, q_K_nrm_eq_1, q_K_nrm_eq_2, q_V_owns_eq_1, q_V_owns_eq_3, q_K_owns_eq_2, q_V_ownsL_eq_1, q_V_ownsL_eq_2, q_V_toNew_eq_1, q_V_toNew_eq_4, q_K_toNew_eq_1, q_V_toNewL_eq_1, q_V_toNewL_eq_2, q_C_norm_eq_4, q_C_norm_eq_5, q_C_normRow_eq_1, q_C_normRow_eq_2, q_C_normRows_eq_1, q_C_normRows_eq_2, true_and, if_true, and_self, BEq.rfl, List.append_nil, List.nodup_nil, Nat.reduceAdd, Nat.reduceBEq, Nat.zero_add, Int.toNat_zero, Nat.le_refl, q_learn_eq_1, q_condK_eq_1, q_condB_eq_1, r_vIaddr_lst, norm_lst, lookT_here, lookT_next, Int.reduceLT, Int.reduceLE, Int.cast_ofNat_Int, uf75, uf75r3, uf75b4, uf75b28, uf75r29, uf75b30, uf75b31, uf75r32, uf75b33, uf75b34, uf75r35, uf75b36]
    simp [kindK, kindB, beq_dec]
  by_cases e6 : op = 6
  · subst e6
    have h2 : l.length = 3 := by simp [arity] at hl; omega
    obtain ⟨a, b, c, rfl⟩ := list3 h2
    clear hl h2 e3 h1
    refine Spec.of_awl hf75 okf75 (by simp) ?_
    simp only [ints, List.map_cons, List.map_nil, List.length_cons, List.length_nil, List.getD_cons_zero, List.getD_cons_succ, q_wpLs_eq_1, q_wpLs_eq_2, q_wpLQs_eq_1, q_wpLQs_eq_2, q_wpL_eq_1, q_wpLQ_eq_1, q_putDL_eq_1, q_AOp_dst_eq_1, q_AOp_dst_eq_8, q_AOp_dst_eq_10, q_AOp_dst_eq_22, q_exL_eq_1, q_exL_eq_11, q_exLQ_eq_1, q_exLQ_eq_3, q_exLQ_eq_9, q_exLQ_eq_12, q_exLQ_eq_24, q_look_eq_1, q_look_eq_2, q_lookO_eq_1, q_insT_eq_1, q_awl_eq_2, q_awl_eq_3, q_awl_eq_5, q_awl_eq_6, q_awl_eq_7, q_awl_eq_10, q_AE_thenL_eq_1, q_AE_thenL_eq_3, q_AE_inBlockL_eq_3, q_initT_eq_1, q_initT_eq_2, q_putK_eq_1, q_vBin_eq_1, q_resV_eq_1, q_binV_eq_1, q_binInt_eq_3, q_cutInt_eq_6, q_partV_eq_2, q_vLoad_eq_2, q_vPick_eq_1, q_vPick_eq_3, q_mapT_eq_1, q_mapT_eq_2, q_mapO_eq_1, q_endK_eq_2, q_endL_eq_1, q_endV_eq_1, q_resL_eq_1, q_resL_eq_2, q_resX_eq_1, q_one_eq_2, q_V_nrm_eq_1, q_V_nrm_eq_5, q_K_nrm_eq_1, q_K_nrm_eq_2, q_V_owns_eq_1, q_V_owns_eq_3, q_K_owns_eq_2, q_V_ownsL_eq_1, q_V_ownsL_eq_2, q_V_toNew_eq_1, q_V_toNew_eq_4, q_K_toNew_eq_1, q_V_toNewL_eq_1, q_V_toNewL_eq_2, q_C_norm_eq_4, q_C_norm_eq_5, q_C_normRow_eq_1, q_C_normRow_eq_2, q_C_normRows_eq_1, q_C_normRows_eq_2, q_Bool_not_true, true_and, if_true, and_self, BEq.rfl, List.append_nil, List.nodup_nil, Nat.reduceAdd, Nat.reduceBEq, Nat.zero_add, Int.toNat_zero, Nat.le_refl, q_learn_eq_1, q_guardP_eq_1, q_condK_eq_1, q_condB_eq_1, q_condB_eq_2, q_exKQ_eq_1, condB_beq, r_vIaddr_lst, norm_lst, lookT_here, lookT_next, Int.reduceLT, Int.reduceLE, Int.reduceToNat, Int.reduceBEq, Int.cast_ofNat_Int, uf75, uf75r7, uf75b8, uf75b19, uf75r20, uf75b21, uf75b22, uf75r23, uf75b24, uf75r25, uf75b26, uf75b27, uf75b28, uf75r29, uf75b30, uf75b31, uf75r32, uf75b33, uf75b34, uf75r35, uf75b36]
    repeat' (first | with_reducible refine And.intro ?_ ?_ | with_reducible intro _)
    all_goals simp_all [kindK, kindB, beq_dec]
  have h2 : l.length = 2 := by rw [arity, if_neg (by omega), if_neg e3, if_neg e6] at hl; omega
  obtain ⟨a, b, rfl⟩ := list2 h2
  clear hl h2
  refine Spec.of_awl hf75 okf75 (by simp) ?_
  simp only [e3, e6, ints, List.map_cons, List.map_nil, List.length_cons, List.length_nil, List.getD_cons_zero, List.getD_cons_succ, q_wpLs_eq_1, q_wpLs_eq_2, q_wpLQs_eq_1, q_wpLQs_eq_2, q_wpL_eq_1, q_wpLQ_eq_1, q_putDL_eq_1, q_AOp_dst_eq_1, q_AOp_dst_eq_8, q_AOp_dst_eq_10, q_AOp_dst_eq_22, q_exL_eq_1, q_exL_eq_11, q_exLQ_eq_1, q_exLQ_eq_3, q_exLQ_eq_9, q_exLQ_eq_12, q_exLQ_eq_24, q_look_eq_1, q_look_eq_2, q_lookO_eq_1, q_insT_eq_1, q_awl_eq_1, q_awl_eq_2, q_awl_eq_3, q_awl_eq_5, q_awl_eq_6, q_awl_eq_7, q_awl_eq_10, q_AE_thenL_eq_1, q_AE_thenL_eq_3, q_AE_inBlockL_eq_1, q_AE_inBlockL_eq_3, q_initT_eq_1, q_initT_eq_2, q_putK_eq_1, q_vBin_eq_1, q_resV_eq_1, q_binV_eq_1, q_binInt_eq_3, q_cutInt_eq_6, q_partV_eq_2, q_vLoad_eq_2, q_vPick_eq_1, q_vPick_eq_3, q_mapT_eq_1, q_mapT_eq_2, q_mapO_eq_1, q_endK_eq_2, q_endL_eq_1, q_endV_eq_1, q_resL_eq_1, q_resL_eq_2, q_resX_eq_1, q_one_eq_2, q_V_nrm_eq_1, q_V_nrm_eq_5, q_K_nrm_eq_1, q_K_nrm_eq_2, q_V_owns_eq_1, q_V_owns_eq_3, q_K_owns_eq_2, q_V_ownsL_eq_1, q_V_ownsL_eq_2, q_V_toNew_eq_1, q_V_toNew_eq_4, q_K_toNew_eq_1, q_V_toNewL_eq_1, q_V_toNewL_eq_2, q_C_norm_eq_4, q_C_norm_eq_5, q_C_normRow_eq_1, q_C_normRow_eq_2, q_C_normRows_eq_1, q_C_normRows_eq_2, q_Bool_not_true, true_and, if_true, false_implies, forall_const, and_self, List.append_nil, List.nodup_nil, Nat.reduceAdd, Nat.reduceBEq, Nat.zero_add, Int.toNat_zero, Nat.le_refl, q_learn_eq_1, not_false_eq_true, q_guardP_eq_1, q_condK_eq_1, q_condB_eq_1, q_condB_eq_2, q_exKQ_eq_1, condB_beq, r_vIaddr_lst, norm_lst, lookT_here, lookT_next, Int.reduceLT, Int.reduceLE, Int.reduceToNat, Int.cast_ofNat_Int, uf75, uf75r1, uf75b2, uf75r3, uf75b4, uf75r5, uf75b6, uf75r7, uf75b8, uf75r9, uf75b10, uf75r11, uf75b12, uf75b13, uf75r14, uf75b15, uf75b16, uf75r17, uf75b18, uf75b19, uf75r20, uf75b21, uf75b22, uf75r23, uf75b24, uf75r25, uf75b26, uf75b27, uf75b28, uf75r29, uf75b30, uf75b31, uf75r32, uf75b33, uf75b34, uf75r35, uf75b36]
  repeat' (first | with_reducible refine And.intro ?_ ?_ | with_reducible intro _)
  all_goals simp_all [kindK, kindB, beq_dec]
theorem s30 (t : Term) : Spec Try.prog 30 [.agg (encT t)] (fun r => r = .bool (few t)) := by
  refine Spec.of_awl hf30 okf30 (by simp) ?_
  simp only [q_wpLs_eq_1, q_wpLs_eq_2, q_wpL_eq_1, q_exL_eq_1, q_exL_eq_5, q_exL_eq_8, q_exL_eq_28, q_look_eq_1, q_look_eq_2, q_insT_eq_1, q_insO_eq_1, q_awl_eq_2, q_awl_eq_5, q_AE_thenL_eq_1, q_initT_eq_1, q_initT_eq_2, q_putK_eq_1, q_loadO_eq_1, q_isV_eq_1, q_vLoad_eq_1, q_boxK_eq_1, q_freeB_eq_1, q_freeT_eq_1, q_freeT_eq_2, q_freeO_eq_1, q_V_noRef_eq_2, q_List_map_cons, q_List_map_nil, q_List_drop_zero, true_and, Bool.and_true, Bool.or_true, Nat.reduceBEq, Nat.zero_add, Nat.le_refl, List.length_map, r_ofRow_take, encT_len, lookT_here, lookT_next, lookO_here, uf30, uf30r1, uf30b2, uf30r3, uf30b4]
  refine call_s (s58 20 t 100 (by omega) (by omega) (by omega)) ?_
  simp only [q_wpLs_eq_1, q_wpLs_eq_2, q_wpL_eq_1, q_exL_eq_1, q_exL_eq_11, q_look_eq_1, q_look_eq_2, q_insT_eq_1, q_awl_eq_10, q_putK_eq_1, q_vBin_eq_1, q_resV_eq_1, q_binV_eq_1, q_binInt_eq_3, q_cutInt_eq_11, q_mapT_eq_1, q_mapT_eq_2, q_mapO_eq_1, q_mapO_eq_2, q_endK_eq_2, q_endL_eq_1, q_endV_eq_1, q_resL_eq_1, q_resL_eq_2, q_resX_eq_1, q_one_eq_1, q_V_nrm_eq_1, q_V_nrm_eq_2, q_K_nrm_eq_1, q_K_nrm_eq_3, q_O_nrm_eq_1, q_V_owns_eq_1, q_K_owns_eq_2, q_V_toNew_eq_1, q_K_toNew_eq_1, q_C_norm_eq_4, q_C_norm_eq_5, true_and, if_true, and_self, List.nodup_nil, encT_norm, lookT_here, Int.cast_ofNat_Int, r_map_nrm]
  rfl
theorem s31 (t : Term) : Spec Try.prog 31 [.agg (encT t)] (fun r => r = pairV (checkT t)) := by
  refine Spec.of_awl hf31 okf31 (by simp) ?_
  simp only [q_wpLs_eq_1, q_wpLs_eq_2, q_wpL_eq_1, q_exL_eq_1, q_exL_eq_5, q_exL_eq_8, q_exL_eq_28, q_look_eq_1, q_look_eq_2, q_insT_eq_1, q_insO_eq_1, q_awl_eq_2, q_awl_eq_5, q_AE_thenL_eq_1, q_initT_eq_1, q_initT_eq_2, q_putK_eq_1, q_loadO_eq_1, q_isV_eq_1, q_vLoad_eq_1, q_boxK_eq_1, q_freeB_eq_1, q_freeT_eq_1, q_freeT_eq_2, q_freeO_eq_1, q_V_noRef_eq_2, q_List_map_cons, q_List_map_nil, q_List_drop_zero, true_and, Bool.and_true, Bool.or_true, Nat.reduceBEq, Nat.zero_add, Nat.le_refl, List.length_map, r_ofRow_take, encT_len, lookT_here, lookT_next, lookO_here, uf31, uf31r6, uf31b7, uf31b8, uf31r9, uf31b10]
  refine call_s (s59 8 t (by omega)) ?_
  have hm := meas_check t
  simp only [q_wpLs_eq_1, q_wpLs_eq_2, q_wpL_eq_1, q_exL_eq_1, q_exL_eq_8, q_exL_eq_11, q_exL_eq_28, q_look_eq_1, q_look_eq_2, q_insT_eq_1, q_awl_eq_1, q_awl_eq_2, q_awl_eq_5, q_awl_eq_6, q_awl_eq_10, q_AE_thenL_eq_1, q_AE_thenL_eq_3, q_putK_eq_1, q_vBin_eq_1, q_resV_eq_1, q_binV_eq_1, q_binInt_eq_3, q_cutInt_eq_10, q_loadO_eq_1, q_isV_eq_1, q_vLoad_eq_1, q_mapT_eq_1, q_mapT_eq_2, q_mapO_eq_1, q_mapO_eq_2, q_endK_eq_2, q_endL_eq_1, q_endV_eq_1, q_resL_eq_1, q_resL_eq_2, q_resX_eq_1, q_one_eq_2, q_V_nrm_eq_1, q_V_nrm_eq_2, q_K_nrm_eq_1, q_K_nrm_eq_3, q_O_nrm_eq_1, q_V_owns_eq_1, q_V_owns_eq_3, q_K_owns_eq_2, q_V_ownsL_eq_1, q_V_ownsL_eq_2, q_V_toNew_eq_1, q_V_toNew_eq_4, q_K_toNew_eq_1, q_V_toNewL_eq_1, q_V_toNewL_eq_2, q_C_norm_eq_4, q_C_norm_eq_5, q_List_map_cons, q_List_map_nil, q_List_drop_zero, true_and, if_true, and_self, List.append_nil, List.nodup_nil, Nat.reduceBEq, Nat.zero_add, Nat.le_refl, q_learn_eq_1, q_condK_eq_1, condB_decide, encT_norm, List.length_map, r_ofRow_take, encT_len, lookT_here, lookT_next, lookO_here, r_map_nrm, uf31r1, uf31b2, uf31r3, uf31b4, uf31b5]
  refine ⟨fun h => ?_, fun h => ?_⟩
  · rw [checkT, if_pos (hm.1 h)]; rfl
  · have h0 : ¬ nodes t 60 8 < 0 := fun h' => h (hm.2 h')
    refine call_s (s60 8 t (narrow_of 8 t 60 (by omega) (by simp; omega))) ?_
    simp only [pairV, q_wpLs_eq_1, q_wpLs_eq_2, q_wpL_eq_1, q_exL_eq_1, q_exL_eq_27, q_look_eq_1, q_insT_eq_1, q_awl_eq_10, q_putK_eq_1, q_vExtr_eq_1, q_mapT_eq_1, q_mapT_eq_2, q_mapO_eq_1, q_mapO_eq_2, q_endK_eq_2, q_endL_eq_1, q_endV_eq_1, q_resL_eq_1, q_resL_eq_2, q_resX_eq_1, q_one_eq_2, q_V_nrm_eq_1, q_V_nrm_eq_2, q_V_nrm_eq_4, q_K_nrm_eq_1, q_K_nrm_eq_3, q_V_nrmL_eq_1, q_V_nrmL_eq_2, q_O_nrm_eq_1, q_V_owns_eq_1, q_V_owns_eq_3, q_K_owns_eq_2, q_V_ownsL_eq_1, q_V_ownsL_eq_2, q_V_toNew_eq_1, q_V_toNew_eq_4, q_K_toNew_eq_1, q_V_toNewL_eq_1, q_V_toNewL_eq_2, q_C_norm_eq_4, q_C_norm_eq_5, q_List_getElemQ_cons_zero, q_List_getElemQ_cons_succ, true_and, and_self, List.append_nil, List.nodup_nil, Nat.reduceBEq, encT_norm, lookT_here, lookT_next, r_map_nrm]
    rw [checkT, if_neg h0]
end Go.Abs


set_option maxRecDepth 100000
set_option maxHeartbeats 4000000
namespace Go.Abs
open Go.Proofs
theorem kind_fit {op : Int} {ty : List Int} (h1 : 3 ≤ op) (h2 : op ≤ 13) (hl : (ty.length : Int) = arity op) (ht : ∀ x ∈ ty, x = 0 ∨ x = 1) :
    (match fit (shapeArgs op) ty (-1) with | none => ((0 : Int), (11 : Int)) | some c => if shapeRes op = -1 then (c, 0) else (shapeRes op, 0)) = if kindB op ty = true then (kindK op ty, 0) else (0, 11) := by
  have hop : op = 3 ∨ op = 4 ∨ op = 5 ∨ op = 6 ∨ op = 7 ∨ op = 8 ∨ op = 9 ∨ op = 10 ∨ op = 11 ∨ op = 12 ∨ op = 13 := by omega
  by_cases e3 : op = 3
  · subst e3
    have hl2 : ty.length = 1 := by simp [arity] at hl; omega
    obtain ⟨a, rfl⟩ := list1 hl2
    rcases ht a (by simp) with rfl | rfl <;> rfl
  by_cases e6 : op = 6
  · subst e6
    have hl2 : ty.length = 3 := by simp [arity] at hl; omega
    obtain ⟨a, b, c, rfl⟩ := list3 hl2
    rcases ht a (by simp) with rfl | rfl <;> rcases ht b (by simp) with rfl | rfl <;> rcases ht c (by simp) with rfl | rfl <;> rfl
  have hl2 : ty.length = 2 := by rw [arity, if_neg (by omega), if_neg e3, if_neg e6] at hl; omega
  obtain ⟨a, b, rfl⟩ := list2 hl2
  rcases hop with rfl | rfl | rfl | rfl | rfl | rfl | rfl | rfl | rfl | rfl | rfl
  all_goals first
    | exact absurd rfl e3
    | exact absurd rfl e6
    | (rcases ht a (by simp) with rfl | rfl <;> rcases ht b (by simp) with rfl | rfl <;> rfl)
theorem arity_shape {op : Int} (h : 3 ≤ op) : arity op = (shapeArgs op).length := by
  rw [shape_len h, arity, if_neg (by omega)]
theorem node_typed (t : Term) (ty : List Int) (ht : ∀ x ∈ ty, x = 0 ∨ x = 1) (h1 : 0 ≤ t.op) (h2 : t.op ≤ 13) (hl : (ty.length : Int) = arity t.op) (hn : 3 ≤ t.op) (h0 : t.n = 0) :
    node t ty = if kindB t.op ty = true then (kindK t.op ty, 0) else (0, 11) := by
  have hsh := arity_shape hn
  rw [← kind_fit hn h2 hl ht]
  have a1 : ¬ (t.op < 0 ∨ t.op > 13) := by omega
  have a2 : ¬ (t.op = 0 ∨ t.op = 1 ∨ t.op = 2) := by omega
  have a3 : ¬ (ty.length ≠ (shapeArgs t.op).length ∨ t.n ≠ 0) := by omega
  simp only [node, if_neg a1, if_neg a2, if_neg a3]
  all_goals rfl
theorem s61 : ∀ (f : Nat) (t : Term), Narrow f t → Spec Try.prog 61 [.agg (encT t)] (fun r => r = pairV (chk t)) := by
  intro f
  induction f with
  | zero => intro t h; exact h.elim
  | succ f ih =>
    intro t hN
    refine Spec.of_awlS hf61 okf61 (by simp) fun S hS => ?_
    have hlen : t.args.length ≤ 1000 := hN.1
    simp only [encT_eq t, q_wpLs_eq_1, q_wpLs_eq_2, q_wpL_eq_1, q_exL_eq_1, q_exL_eq_5, q_exL_eq_7, q_look_eq_1, q_look_eq_2, q_insT_eq_1, q_insO_eq_1, q_awl_eq_2, q_awl_eq_5, q_awl_eq_7, q_AE_thenL_eq_1, q_initT_eq_1, q_initT_eq_2, q_boxK_eq_1, q_vLits_eq_1, q_bsK_eq_1, q_freeB_eq_1, q_freeT_eq_1, q_freeT_eq_2, q_freeO_eq_1, q_freeO_eq_2, q_V_noRef_eq_1, q_V_noRef_eq_2, q_K_noRef_eq_1, q_K_noRef_eq_3, q_O_noRef_eq_1, q_List_map_cons, q_List_map_nil, q_List_foldl_nil, q_List_replicate_zero, q_List_length_cons, q_List_length_nil, q_List_all_cons, q_List_all_nil, true_and, false_implies, implies_true, bne_iff_ne, ne_eq, Bool.and_true, Bool.true_and, Bool.or_true, Bool.false_or, Nat.reduceEqDiff, Nat.reduceBEq, Nat.zero_add, not_false_eq_true, lookT_here, List.not_mem_nil, implies_true, uf61, uf61b48, uf61r49, uf61b50, uf61b51, uf61r52, uf61b53, uf61r54, uf61b55]
    rw [uf61l47]
    refine awl_loop (fun x : Nat × List Int => [(1, .k (.ptr 1 0)), (4, .k (.own 11)), (5, .int .i64 x.1)])
      (fun x => [(1, .var 41 [.c (.int .i64 t.op), .c (.int .i64 t.n), .c (lstC 3 (t.args.map encT))]), (11, .arr 3 1 (some false) (ints x.2))])
      (fun x => x.1 ≤ t.args.length ∧ x.2.length = x.1 ∧ chkA (t.args.drop x.1) x.2 = chkA t.args [] ∧ (∀ y ∈ x.2, y = 0 ∨ y = 1)) (fun x => t.args.length - x.1) (0, []) rfl rfl ⟨Nat.zero_le _, rfl, rfl, by simp⟩ ?_
    rintro ⟨i, ty⟩ ⟨hi, hty, hj, hb⟩
    simp only [] at hi hty hj hb
    by_cases hlt : i < t.args.length
    · have c1 : (i : Int) < t.args.length := by omega
      have c4 : IntKind.i64.wrap ((i : Int) + 1) = (i : Int) + 1 := wrap_in (by omega) (by omega)
      simp only [map_at hlt, encT_len, c1, q_wpLs_eq_1, q_wpLs_eq_2, q_wpL_eq_1, q_exL_eq_1, q_exL_eq_8, q_exL_eq_11, q_exL_eq_21, q_exL_eq_23, q_exL_eq_28, q_exL_eq_30, q_look_eq_1, q_insT_eq_1, q_awl_eq_1, q_awl_eq_2, q_awl_eq_5, q_awl_eq_6, q_awl_eq_7, q_AE_thenL_eq_1, q_putK_eq_1, q_vBin_eq_1, q_resV_eq_1, q_binV_eq_1, q_binInt_eq_3, q_cutInt_eq_8, q_vFaddr_eq_1, q_partV_eq_1, q_loadO_eq_1, q_isV_eq_1, q_vLoad_eq_1, q_vLoad_eq_2, q_ofRow_eq_1, q_pureRow_eq_1, q_pureRow_eq_2, q_isVarO_eq_1, q_Option_map_some, q_List_map_cons, q_List_map_nil, q_List_take_succ_cons, q_List_take_zero, q_List_drop_succ_cons, q_List_drop_zero, q_List_length_cons, q_List_length_nil, true_and, if_true, if_false, Bool.false_eq_true, and_self, Nat.reduceAdd, Nat.reduceBEq, Nat.zero_add, Int.toNat_natCast, Nat.le_refl, Int.natCast_nonneg, q_learn_eq_1, q_condK_eq_1, q_condB_eq_1, decide_true, r_vLen_lst, r_vIaddr_lst, List.length_map, lookT_here, lookT_next, lookO_here, uf61r31, uf61r39, uf61b40, uf61b41, uf61b42, uf61b43, uf61r44, uf61b45, uf61b46]
      refine call_s (ih t.args[i] (hN.2 _ (List.getElem_mem hlt))) ?_
      simp only [c4, pairV, q_wpLs_eq_1, q_wpLs_eq_2, q_wpL_eq_1, q_exL_eq_1, q_exL_eq_7, q_exL_eq_11, q_exL_eq_27, q_exL_eq_33, q_look_eq_1, q_look_eq_2, q_insT_eq_1, q_insO_eq_1, q_awl_eq_1, q_awl_eq_2, q_awl_eq_5, q_awl_eq_6, q_awl_eq_10, q_AE_thenL_eq_1, q_AE_thenL_eq_3, q_AE_inBlockL_eq_1, q_AE_inBlockL_eq_3, q_putK_eq_1, q_vBin_eq_1, q_resV_eq_1, q_binV_eq_1, q_binInt_eq_3, q_cutInt_eq_1, q_cutInt_eq_7, q_vExtr_eq_1, q_nlApp_eq_2, q_vRow_eq_1, q_vLits_eq_1, q_vLits_eq_2, q_bsK_eq_1, q_srcO_eq_1, q_srcV_eq_2, q_appK_eq_1, q_appendK_eq_1, q_mapT_eq_1, q_mapT_eq_2, q_mapO_eq_1, q_mapO_eq_2, q_delO_eq_1, q_delO_eq_2, q_freeB_eq_1, q_freeT_eq_1, q_freeT_eq_2, q_freeO_eq_1, q_freeO_eq_2, q_V_noRef_eq_1, q_V_noRef_eq_2, q_V_noRef_eq_4, q_K_noRef_eq_1, q_K_noRef_eq_2, q_K_noRef_eq_3, q_K_noRef_eq_5, q_O_noRef_eq_1, q_O_noRef_eq_2, q_V_noRefL_eq_1, q_V_noRefL_eq_2, q_V_scrub_eq_1, q_V_scrub_eq_3, q_V_scrub_eq_5, q_K_scrub_eq_1, q_K_scrub_eq_2, q_K_scrub_eq_5, q_O_scrub_eq_1, q_O_scrub_eq_2, q_endK_eq_2, q_endL_eq_1, q_endV_eq_1, q_resL_eq_1, q_resL_eq_2, q_resX_eq_1, q_one_eq_2, q_V_nrm_eq_1, q_V_nrm_eq_2, q_V_nrm_eq_4, q_K_nrm_eq_1, q_K_nrm_eq_2, q_K_nrm_eq_3, q_V_nrmL_eq_1, q_V_nrmL_eq_2, q_O_nrm_eq_1, q_O_nrm_eq_2, q_V_owns_eq_1, q_V_owns_eq_3, q_K_owns_eq_2, q_V_ownsL_eq_1, q_V_ownsL_eq_2, q_V_toNew_eq_1, q_V_toNew_eq_4, q_K_toNew_eq_1, q_V_toNewL_eq_1, q_V_toNewL_eq_2, q_C_norm_eq_4, q_C_norm_eq_5, q_List_map_cons, q_List_map_nil, q_List_foldl_cons, q_List_foldl_nil, q_List_replicate_succ, q_List_replicate_zero, q_List_set_cons_zero, q_List_length_cons, q_List_length_nil, q_List_getElemQ_cons_zero, q_List_getElemQ_cons_succ, q_List_all_cons, q_List_all_nil, true_and, if_true, if_false, forall_eq, or_false, and_self, bne_iff_ne, ne_eq, Bool.and_eq_true, Bool.and_true, Bool.true_and, Bool.or_true, Bool.false_or, List.append_nil, List.mem_cons, List.nodup_nil, Nat.reduceEqDiff, Nat.reduceLeDiff, Nat.reduceLT, Nat.reduceBEq, Nat.zero_add, q_learn_eq_1, not_false_eq_true, q_condK_eq_1, condB_bne, norm_lst, normRows_T, normRows_ints, encT_norm, ints_len, lookT_here, lookT_next, lookO_here, lookO_next, List.not_mem_nil, uf61r32, uf61r33, uf61b34, uf61b35, uf61r36, uf61b37, uf61b38]
      refine ⟨fun h6 => ?_, fun h6 => ?_⟩
      · rw [chkA_drop hlt, if_pos h6] at hj
        refine fin hS ?_
        rw [chk_eq t, ← hj]
        simp [h6, pairV]
      · refine ⟨by omega, by omega, Next.intro (i + 1, ty ++ [(chk t.args[i]).1]) rfl (by rw [ints_snoc]; rfl) ⟨by simp only []; omega, by simp [hty], ?_, ?_⟩ (by simp only []; omega)⟩
        · rw [chkA_drop hlt, if_neg (by simp [h6])] at hj
          exact hj
        · intro y hy
          rcases List.mem_append.1 hy with hy | hy
          · exact hb y hy
          · simp at hy; rw [hy]; exact chk_ty _
    · have c1 : ¬ (i : Int) < t.args.length := by omega
      simp only [c1, q_wpLs_eq_1, q_wpLs_eq_2, q_wpL_eq_1, q_putDL_eq_1, q_AOp_dst_eq_8, q_AOp_dst_eq_10, q_AOp_dst_eq_20, q_exL_eq_1, q_exL_eq_3, q_exL_eq_8, q_exL_eq_11, q_exL_eq_21, q_exL_eq_28, q_exL_eq_30, q_look_eq_1, q_look_eq_2, q_insT_eq_1, q_awl_eq_1, q_awl_eq_2, q_awl_eq_5, q_awl_eq_6, q_awl_eq_9, q_awl_eq_10, q_AE_thenL_eq_1, q_AE_thenL_eq_2, q_AE_thenL_eq_3, q_AE_inBlockL_eq_2, q_putK_eq_1, q_vBin_eq_1, q_resV_eq_1, q_binV_eq_1, q_binInt_eq_3, q_cutInt_eq_8, q_cutInt_eq_11, q_vFaddr_eq_1, q_loadO_eq_1, q_isV_eq_1, q_vLoad_eq_1, q_vPick_eq_1, q_vPick_eq_2, q_ofRow_eq_1, q_pureRow_eq_1, q_pureRow_eq_2, q_isVarO_eq_1, q_mapT_eq_1, q_mapT_eq_2, q_mapO_eq_1, q_mapO_eq_2, q_endK_eq_2, q_endL_eq_1, q_endV_eq_1, q_resL_eq_1, q_resL_eq_2, q_resX_eq_1, q_one_eq_2, q_V_nrm_eq_1, q_V_nrm_eq_5, q_K_nrm_eq_1, q_K_nrm_eq_3, q_O_nrm_eq_1, q_O_nrm_eq_2, q_V_owns_eq_1, q_V_owns_eq_3, q_K_owns_eq_2, q_V_ownsL_eq_1, q_V_ownsL_eq_2, q_V_toNew_eq_1, q_V_toNew_eq_4, q_K_toNew_eq_1, q_V_toNewL_eq_1, q_V_toNewL_eq_2, q_C_norm_eq_4, q_C_norm_eq_5, q_Bool_not_false, q_Option_map_some, q_List_map_cons, q_List_map_nil, q_List_take_succ_cons, q_List_take_zero, q_List_drop_succ_cons, q_List_drop_zero, q_List_length_cons, q_List_length_nil, true_and, if_true, if_false, Bool.false_eq_true, and_self, List.append_nil, List.nodup_nil, Nat.reduceAdd, Nat.reduceLeDiff, Nat.reduceBEq, Nat.zero_add, Nat.add_zero, Nat.le_refl, q_learn_eq_1, q_guardP_eq_2, q_condK_eq_1, q_condB_eq_1, q_condB_eq_2, q_exK_eq_1, condB_decide, decide_false, r_vLen_lst, norm_lst, normRows_T, normRows_ints, List.length_map, lookT_here, lookT_next, lookO_here, uf61r23, uf61b24, uf61r25, uf61b26, uf61b27, uf61r28, uf61b29, uf61b30, uf61b43, uf61r44, uf61b45, uf61b46]
      rw [List.drop_eq_nil_of_le (by omega), chkA] at hj
      have e : chk t = node t ty := by rw [chk_eq t, ← hj]; simp
      rw [e] at hS
      clear ih hj e
      have hlt2 : ty.length = t.args.length := by omega
      refine ⟨fun h => ?_, fun h1 => ⟨fun h => ?_, fun h2 => ?_⟩⟩
      · exact fin hS (by simp only [node, if_pos (Or.inl h : t.op < 0 ∨ t.op > 13)]; rfl)
      · exact fin hS (by simp only [node, if_pos (Or.inr (by omega) : t.op < 0 ∨ t.op > 13)]; rfl)
      have a1 : ¬ (t.op < 0 ∨ t.op > 13) := by omega
      refine call_s (s73 t.op) ?_
      simp only [q_wpLs_eq_1, q_wpLs_eq_2, q_wpL_eq_1, q_putDL_eq_1, q_AOp_dst_eq_1, q_AOp_dst_eq_3, q_AOp_dst_eq_8, q_AOp_dst_eq_10, q_AOp_dst_eq_20, q_exL_eq_1, q_exL_eq_3, q_exL_eq_8, q_exL_eq_11, q_exL_eq_21, q_exL_eq_28, q_exL_eq_30, q_look_eq_1, q_look_eq_2, q_insT_eq_1, q_awl_eq_1, q_awl_eq_2, q_awl_eq_5, q_awl_eq_6, q_awl_eq_10, q_AE_thenL_eq_1, q_AE_thenL_eq_3, q_putK_eq_1, q_vBin_eq_1, q_resV_eq_1, q_binV_eq_1, q_binInt_eq_3, q_cutInt_eq_6, q_cutInt_eq_7, q_cutInt_eq_10, q_vLen_eq_2, q_lenO_eq_1, q_vFaddr_eq_1, q_loadO_eq_1, q_isV_eq_1, q_vLoad_eq_1, q_vPick_eq_1, q_vPick_eq_2, q_vPick_eq_3, q_ofRow_eq_1, q_ofRow_eq_2, q_pureRow_eq_1, q_pureRow_eq_2, q_isVarO_eq_1, q_mapT_eq_1, q_mapT_eq_2, q_mapO_eq_1, q_mapO_eq_2, q_endK_eq_2, q_endL_eq_1, q_endV_eq_1, q_resL_eq_1, q_resL_eq_2, q_resX_eq_1, q_one_eq_2, q_V_nrm_eq_1, q_V_nrm_eq_5, q_K_nrm_eq_1, q_K_nrm_eq_3, q_O_nrm_eq_1, q_O_nrm_eq_2, q_V_owns_eq_1, q_V_owns_eq_3, q_K_owns_eq_2, q_V_ownsL_eq_1, q_V_ownsL_eq_2, q_V_toNew_eq_1, q_V_toNew_eq_4, q_K_toNew_eq_1, q_V_toNewL_eq_1, q_V_toNewL_eq_2, q_C_norm_eq_4, q_C_norm_eq_5, q_Bool_not_true, q_Bool_not_false, q_Option_map_some, q_List_map_cons, q_List_map_nil, q_List_take_succ_cons, q_List_take_zero, q_List_drop_succ_cons, q_List_drop_zero, q_List_length_cons, q_List_length_nil, true_and, if_true, if_false, Bool.false_eq_true, and_self, List.append_nil, List.nodup_nil, Nat.reduceAdd, Nat.reduceLeDiff, Nat.reduceBEq, Nat.zero_add, Nat.add_zero, Nat.le_refl, q_learn_eq_1, q_guardP_eq_1, q_guardP_eq_2, q_guardP_eq_3, q_condK_eq_1, q_condB_eq_1, q_condB_eq_2, q_exK_eq_1, condB_decide, condB_beq, condB_bne, norm_lst, normRows_T, normRows_ints, ints_len, lookT_here, lookT_next, lookO_here, lookO_next, uf61r9, uf61b10, uf61r11, uf61b12, uf61b13, uf61r14, uf61b15, uf61b16, uf61r17, uf61b18, uf61b19, uf61r20, uf61b21, uf61b22]
      by_cases hop : t.op = 0 ∨ t.op = 1 ∨ t.op = 2
      · have har : arity t.op = 0 := by rw [arity, if_pos hop]
        have hnode : node t ty = leaf t := by simp only [node, if_neg a1, if_pos hop]
        simp only [har, true_and, and_true, false_implies, forall_const, BEq.rfl, not_true_eq_false, not_false_eq_true, decide_false, Int.reduceGT]
        refine ⟨fun h => ?_, fun h => ?_⟩
        · refine fin hS ?_
          rw [hnode, leaf, if_pos (by omega)]; rfl
        · have h0 : t.args = [] := List.eq_nil_of_length_eq_zero (by omega)
          refine call_s (s74 t h0 (by omega) (by omega)) ?_
          simp only [pairV, q_wpLs_eq_1, q_wpLs_eq_2, q_wpL_eq_1, q_exL_eq_1, q_exL_eq_27, q_look_eq_1, q_insT_eq_1, q_awl_eq_10, q_AE_thenL_eq_3, q_putK_eq_1, q_vExtr_eq_1, q_mapT_eq_1, q_mapT_eq_2, q_mapO_eq_1, q_mapO_eq_2, q_endK_eq_2, q_endL_eq_1, q_endV_eq_1, q_resL_eq_1, q_resL_eq_2, q_resX_eq_1, q_one_eq_2, q_V_nrm_eq_1, q_V_nrm_eq_2, q_V_nrm_eq_4, q_V_nrm_eq_5, q_K_nrm_eq_1, q_K_nrm_eq_3, q_V_nrmL_eq_1, q_V_nrmL_eq_2, q_O_nrm_eq_1, q_O_nrm_eq_2, q_V_owns_eq_1, q_V_owns_eq_3, q_K_owns_eq_2, q_V_ownsL_eq_1, q_V_ownsL_eq_2, q_V_toNew_eq_1, q_V_toNew_eq_4, q_K_toNew_eq_1, q_V_toNewL_eq_1, q_V_toNewL_eq_2, q_C_norm_eq_4, q_C_norm_eq_5, q_C_normRow_eq_1, q_C_normRow_eq_2, q_List_map_cons, q_List_map_nil, q_List_getElemQ_cons_zero, q_List_getElemQ_cons_succ, true_and, and_self, List.append_nil, List.nodup_nil, Nat.reduceBEq, norm_lst, normRows_T, normRows_ints, lookT_here, lookT_next]
          exact fin hS (by rw [hnode]; rfl)
      · have hsh := arity_shape (op := t.op) (by omega)
        have har : arity t.op ≠ 0 := by rw [hsh, shape_len (by omega)]; (repeat' split) <;> simp
        have har2 : arity t.op > 0 := by rw [hsh, shape_len (by omega)]; (repeat' split) <;> simp
        simp only [har, har2, true_and, and_true, false_implies, forall_const, not_true_eq_false, not_false_eq_true, decide_true]
        refine ⟨fun h => ?_, fun h => ⟨fun h3 => ?_, fun h3 => ?_⟩⟩
        · refine fin hS ?_
          simp only [node, if_neg a1, if_neg hop, if_pos (Or.inl (by omega) : ty.length ≠ (shapeArgs t.op).length ∨ t.n ≠ 0)]; rfl
        · refine fin hS ?_
          simp only [node, if_neg a1, if_neg hop, if_pos (Or.inr h3 : ty.length ≠ (shapeArgs t.op).length ∨ t.n ≠ 0)]; rfl
        · refine call_s (s75 t.op ty (by omega) (by omega)) ?_
          rw [node_typed t ty hb (by omega) (by omega) (by omega) (by omega) h3] at hS
          by_cases hk : kindB t.op ty = true
          · rw [if_pos hk] at hS
            simp only [hk, q_wpLs_eq_1, q_wpLs_eq_2, q_wpL_eq_1, q_exL_eq_1, q_exL_eq_15, q_exL_eq_27, q_look_eq_1, q_look_eq_2, q_insT_eq_1, q_awl_eq_1, q_awl_eq_2, q_awl_eq_5, q_awl_eq_6, q_awl_eq_10, q_AE_thenL_eq_1, q_putK_eq_1, q_vUn_eq_1, q_unV_eq_2, q_mapC_eq_1, q_vExtr_eq_1, q_mapT_eq_1, q_mapT_eq_2, q_mapO_eq_1, q_mapO_eq_2, q_endK_eq_2, q_endL_eq_1, q_endV_eq_1, q_resL_eq_1, q_resL_eq_2, q_resX_eq_1, q_one_eq_2, q_V_nrm_eq_1, q_V_nrm_eq_4, q_K_nrm_eq_1, q_K_nrm_eq_3, q_V_nrmL_eq_1, q_V_nrmL_eq_2, q_O_nrm_eq_1, q_O_nrm_eq_2, q_V_owns_eq_1, q_V_owns_eq_3, q_K_owns_eq_2, q_V_ownsL_eq_1, q_V_ownsL_eq_2, q_V_toNew_eq_1, q_V_toNew_eq_4, q_K_toNew_eq_1, q_V_toNewL_eq_1, q_V_toNewL_eq_2, q_C_norm_eq_4, q_C_norm_eq_5, q_Bool_not_true, q_List_map_cons, q_List_map_nil, q_List_getElemQ_cons_zero, q_List_getElemQ_cons_succ, true_and, and_self, List.append_nil, List.nodup_nil, Nat.reduceBEq, q_learn_eq_1, q_condK_eq_1, q_condB_eq_2, norm_lst, normRows_T, normRows_ints, lookT_here, lookT_next, uf61r1, uf61b2, uf61b5, uf61r6, uf61b7, uf61b8]
            exact fin hS rfl
          · rw [if_neg hk] at hS
            have hk : kindB t.op ty = false := by simpa using hk
            simp only [hk, q_wpLs_eq_1, q_wpLs_eq_2, q_wpL_eq_1, q_exL_eq_1, q_exL_eq_15, q_exL_eq_27, q_look_eq_1, q_look_eq_2, q_insT_eq_1, q_awl_eq_2, q_awl_eq_5, q_awl_eq_6, q_awl_eq_10, q_AE_thenL_eq_1, q_AE_thenL_eq_3, q_putK_eq_1, q_vUn_eq_1, q_unV_eq_2, q_mapC_eq_1, q_vExtr_eq_1, q_mapT_eq_1, q_mapT_eq_2, q_mapO_eq_1, q_mapO_eq_2, q_endK_eq_2, q_endL_eq_1, q_endV_eq_1, q_resL_eq_1, q_resL_eq_2, q_resX_eq_1, q_one_eq_2, q_V_nrm_eq_1, q_V_nrm_eq_4, q_K_nrm_eq_1, q_K_nrm_eq_3, q_V_nrmL_eq_1, q_V_nrmL_eq_2, q_O_nrm_eq_1, q_O_nrm_eq_2, q_V_owns_eq_1, q_V_owns_eq_3, q_K_owns_eq_2, q_V_ownsL_eq_1, q_V_ownsL_eq_2, q_V_toNew_eq_1, q_V_toNew_eq_4, q_K_toNew_eq_1, q_V_toNewL_eq_1, q_V_toNewL_eq_2, q_C_norm_eq_4, q_C_norm_eq_5, q_Bool_not_false, q_List_map_cons, q_List_map_nil, q_List_getElemQ_cons_zero, q_List_getElemQ_cons_succ, true_and, and_self, List.append_nil, List.nodup_nil, Nat.reduceBEq, q_learn_eq_1, q_condK_eq_1, q_condB_eq_1, norm_lst, normRows_T, normRows_ints, lookT_here, lookT_next, uf61r3, uf61b4, uf61b5, uf61r6, uf61b7, uf61b8]
            exact fin hS rfl
theorem s32 (t : Term) : Spec Try.prog 32 [.agg (encT t)] (fun r => r = pairV (checkT t)) := by
  refine Spec.of_awlS hf32 okf32 (by simp) fun S hS => ?_
  simp only [q_wpLs_eq_1, q_wpLs_eq_2, q_wpL_eq_1, q_exL_eq_1, q_exL_eq_5, q_exL_eq_8, q_exL_eq_28, q_look_eq_1, q_look_eq_2, q_insT_eq_1, q_insO_eq_1, q_awl_eq_2, q_awl_eq_5, q_AE_thenL_eq_1, q_initT_eq_1, q_initT_eq_2, q_putK_eq_1, q_loadO_eq_1, q_isV_eq_1, q_vLoad_eq_1, q_boxK_eq_1, q_freeB_eq_1, q_freeT_eq_1, q_freeT_eq_2, q_freeO_eq_1, q_V_noRef_eq_2, q_List_map_cons, q_List_map_nil, q_List_drop_zero, true_and, Bool.and_true, Bool.or_true, Nat.reduceBEq, Nat.zero_add, Nat.le_refl, List.length_map, r_ofRow_take, encT_len, lookT_here, lookT_next, lookO_here, uf32, uf32r6, uf32b7, uf32b8, uf32r9, uf32b10]
  refine call_s (s58 8 t 60 (by omega) (by omega) (by omega)) ?_
  simp only [q_wpLs_eq_1, q_wpLs_eq_2, q_wpL_eq_1, q_exL_eq_1, q_exL_eq_8, q_exL_eq_11, q_exL_eq_28, q_look_eq_1, q_look_eq_2, q_insT_eq_1, q_awl_eq_1, q_awl_eq_2, q_awl_eq_5, q_awl_eq_6, q_awl_eq_10, q_AE_thenL_eq_1, q_AE_thenL_eq_3, q_putK_eq_1, q_vBin_eq_1, q_resV_eq_1, q_binV_eq_1, q_binInt_eq_3, q_cutInt_eq_8, q_loadO_eq_1, q_isV_eq_1, q_vLoad_eq_1, q_mapT_eq_1, q_mapT_eq_2, q_mapO_eq_1, q_mapO_eq_2, q_endK_eq_2, q_endL_eq_1, q_endV_eq_1, q_resL_eq_1, q_resL_eq_2, q_resX_eq_1, q_one_eq_2, q_V_nrm_eq_1, q_V_nrm_eq_2, q_K_nrm_eq_1, q_K_nrm_eq_3, q_O_nrm_eq_1, q_V_owns_eq_1, q_V_owns_eq_3, q_K_owns_eq_2, q_V_ownsL_eq_1, q_V_ownsL_eq_2, q_V_toNew_eq_1, q_V_toNew_eq_4, q_K_toNew_eq_1, q_V_toNewL_eq_1, q_V_toNewL_eq_2, q_C_norm_eq_4, q_C_norm_eq_5, q_List_map_cons, q_List_map_nil, q_List_drop_zero, true_and, if_true, and_self, List.append_nil, List.nodup_nil, Nat.reduceBEq, Nat.zero_add, Nat.le_refl, q_learn_eq_1, q_condK_eq_1, condB_decide, encT_norm, List.length_map, r_ofRow_take, encT_len, lookT_here, lookT_next, Int.cast_ofNat_Int, lookO_here, r_map_nrm, uf32r1, uf32b2, uf32r3, uf32b4, uf32b5]
  refine ⟨fun h => ?_, fun h => ?_⟩
  · refine fin hS ?_
    rw [checkT, if_pos h]; rfl
  · refine call_s (s61 8 t (narrow_of 8 t 60 (by omega) (by simp; omega))) ?_
    simp only [pairV, q_wpLs_eq_1, q_wpLs_eq_2, q_wpL_eq_1, q_exL_eq_1, q_exL_eq_27, q_look_eq_1, q_insT_eq_1, q_awl_eq_10, q_putK_eq_1, q_vExtr_eq_1, q_mapT_eq_1, q_mapT_eq_2, q_mapO_eq_1, q_mapO_eq_2, q_endK_eq_2, q_endL_eq_1, q_endV_eq_1, q_resL_eq_1, q_resL_eq_2, q_resX_eq_1, q_one_eq_2, q_V_nrm_eq_1, q_V_nrm_eq_2, q_V_nrm_eq_4, q_K_nrm_eq_1, q_K_nrm_eq_3, q_V_nrmL_eq_1, q_V_nrmL_eq_2, q_O_nrm_eq_1, q_V_owns_eq_1, q_V_owns_eq_3, q_K_owns_eq_2, q_V_ownsL_eq_1, q_V_ownsL_eq_2, q_V_toNew_eq_1, q_V_toNew_eq_4, q_K_toNew_eq_1, q_V_toNewL_eq_1, q_V_toNewL_eq_2, q_C_norm_eq_4, q_C_norm_eq_5, q_List_getElemQ_cons_zero, q_List_getElemQ_cons_succ, true_and, and_self, List.append_nil, List.nodup_nil, Nat.reduceBEq, encT_norm, lookT_here, lookT_next, r_map_nrm]
    refine fin hS ?_
    rw [checkT, if_neg h]; rfl
end Go.Abs


namespace Go.Abs
def qtype (q : Int) : Int := if q = 6 ∨ q = 7 ∨ q = 10 ∨ q = 12 ∨ q = 13 ∨ q = 14 ∨ q = 15 ∨ q = 16 ∨ q = 20 ∨ q = 21 then 0 else 1
def chs : List Choice → Int → Bool
  | [], _ => true
  | c :: l, last => if ¬ (last < c.ask ∧ c.ask < 22) ∨ c.by_ < 0 ∨ c.by_ ≥ 5 then false else chs l c.ask
def rls : List Rule → Int → Bool
  | [], _ => true
  | c :: l, last => if ¬ (last < c.ask ∧ c.ask < 22) then false else rls l c.ask
def tys : List Rule → Int
  | [] => 0
  | r :: l => if (checkT r.term).2 ≠ 0 then (checkT r.term).2 else if (checkT r.term).1 ≠ qtype r.ask then 11 else tys l
def checkO (o : Order) : Int := if chs o.choices (-1) = false then 1 else if rls o.rules (-1) = false then 1 else tys o.rules
def ordersO : List Order → Int → Int × Int
  | [], _ => (-1, 0)
  | o :: l, i => if checkO o ≠ 0 then (i, checkO o) else ordersO l (i + 1)
def hasI (l : List Int) (v : Int) : Bool := l.any fun x => decide (x = v)
end Go.Abs


set_option maxRecDepth 100000
set_option maxHeartbeats 4000000
namespace Go.Abs
open Go.Proofs
mutual
def szT : Term → Nat
  | .mk _ _ a => 1 + szL a
def szL : List Term → Nat
  | [] => 0
  | t :: l => szT t + szL l
end
theorem szT_eq (t : Term) : szT t = 1 + szL t.args := by cases t; simp only [szT, Term.args]
theorem szL_drop {l : List Term} {i : Nat} (h : i < l.length) : szL (l.drop i) = szT l[i] + szL (l.drop (i + 1)) := by
  rw [List.drop_eq_getElem_cons h, szL]
theorem szL_le : ∀ (l : List Term), l.length ≤ szL l
  | [] => by simp [szL]
  | t :: l => by have := szL_le l; rw [szL, szT_eq]; simp; omega
mutual
theorem coll_len : ∀ (t : Term) (acc : List Int), (coll t acc).length ≤ acc.length + szT t
  | .mk o n a, acc => by
    simp only [coll, szT]
    have := collL_len a (if o = 2 then acc ++ [n] else acc)
    split at this <;> simp_all <;> omega
theorem collL_len : ∀ (l : List Term) (acc : List Int), (collL l acc).length ≤ acc.length + szL l
  | [], acc => by simp [collL, szL]
  | t :: l, acc => by
    simp only [collL, szL]
    have h1 := coll_len t acc
    have h2 := collL_len l (coll t acc)
    omega
end
def walkO (acc : List Int) : OS := [(1005, .var 36 [.own 1000]), (1006, .var 80 [.fnk 62 [.tok 1005, .tok 1006]]), (1000, .arr 3 1 none (ints acc))]
def walkT : List Nat := [1005, 1006, 1000]
theorem s62 : ∀ (t : Term) (acc : List Int), acc.length + szT t ≤ 1000000 → SpecS Try.prog 62 [.agg (encT t), .k (.ptr 1005 0), .k (.ptr 1006 0)] (tabL walkT (walkO acc)) [1005, 1006] (fun r o' => r = .tup [] ∧ o' = tabL walkT (walkO (coll t acc))) := by
  refine Term.ind fun o n a ih acc => ?_
  generalize ht : Term.mk o n a = t
  have ha : a = t.args := by rw [← ht]; rfl
  rw [ha] at ih
  clear ht ha o n a
  intro hsz
  have hsz' := hsz
  rw [szT_eq] at hsz'
  have hal := szL_le t.args
  refine SpecS.of_awl (anchors := [(1, 1005), (2, 1006)]) hf62 okf62 (by simp) (by rfl) (by simp [walkO, walkT]) ?_
  generalize hS : (fun (r : V) (o' : Nat → Option O) => r = .tup [] ∧ o' = tabL walkT (walkO (coll t acc))) = S
  rw [coll_eq] at hS
  have loop : ∀ (acc' : List Int) (nl : Option Bool), acc'.length + szL t.args ≤ 1000000 → collL t.args acc' = collL t.args (if t.op = 2 then acc ++ [t.n] else acc) →
      ∀ ts os, keepT ts [1, 2, 15, 16, 17] = [(1, .k (.ptr 1005 0)), (2, .k (.ptr 1006 0)), (15, lst 3 (t.args.map encT)), (16, .int .i64 t.args.length), (17, .int .i64 0)] →
      keepO os [1000, 1005, 1006] = [(1000, .arr 3 1 nl (ints acc')), (1005, .var 36 [.own 1000]), (1006, .var 80 [.fnk 62 [.tok 1005, .tok 1006]])] →
      awl Try.prog f62l11 (AE.inBlockL 0 (endSK [] [.agg (encT t), .k (.ptr 1005 0), .k (.ptr 1006 0)] (tabL walkT (walkO acc)) walkT [(1, 1005), (2, 1006)] S)) ts os := by
    intro acc' nl hacc hcoll ts os hts hos
    rw [uf62l11]
    refine awl_loop (fun x : Nat × List Int × Option Bool => [(1, .k (.ptr 1005 0)), (2, .k (.ptr 1006 0)), (15, lst 3 (t.args.map encT)), (16, .int .i64 t.args.length), (17, .int .i64 x.1)])
      (fun x => [(1000, .arr 3 1 x.2.2 (ints x.2.1)), (1005, .var 36 [.own 1000]), (1006, .var 80 [.fnk 62 [.tok 1005, .tok 1006]])])
      (fun x => x.1 ≤ t.args.length ∧ x.2.1.length + szL (t.args.drop x.1) ≤ 1000000 ∧ collL (t.args.drop x.1) x.2.1 = collL t.args acc') (fun x => t.args.length - x.1) (0, acc', nl) hts hos ⟨Nat.zero_le _, by simpa using hacc, rfl⟩ ?_
    rintro ⟨i, ac, nl⟩ ⟨hi, hb, hj⟩
    simp only [] at hi hb hj
    by_cases hlt : i < t.args.length
    · have c1 : (i : Int) < t.args.length := by omega
      have c4 : IntKind.i64.wrap ((i : Int) + 1) = (i : Int) + 1 := wrap_in (by omega) (by omega)
      rw [szL_drop hlt] at hb
      rw [collL_drop hlt] at hj
      have hcl := coll_len t.args[i] ac
      simp only [c1, map_at hlt, encT_len, q_wpLs_eq_1, q_wpLs_eq_2, q_wpL_eq_1, q_exL_eq_4, q_exL_eq_8, q_exL_eq_9, q_exL_eq_11, q_exL_eq_23, q_exL_eq_29, q_look_eq_1, q_insT_eq_1, q_insO_eq_1, q_awl_eq_1, q_awl_eq_2, q_awl_eq_5, q_awl_eq_6, q_awl_eq_7, q_AE_thenL_eq_1, q_AE_inBlockL_eq_1, q_putK_eq_1, q_vBin_eq_1, q_resV_eq_1, q_binV_eq_1, q_binInt_eq_3, q_cutInt_eq_8, q_partV_eq_1, q_loadO_eq_1, q_isV_eq_1, q_vLoad_eq_1, q_vLoad_eq_2, q_ofRow_eq_1, q_pureRow_eq_3, q_V_cells_eq_2, q_splice_eq_1, q_stVarK_eq_1, q_storeK_eq_1, q_freeB_eq_1, q_freeT_eq_1, q_freeT_eq_2, q_freeO_eq_1, q_freeO_eq_2, q_V_noRef_eq_1, q_V_noRef_eq_2, q_K_noRef_eq_1, q_K_noRef_eq_2, q_K_noRef_eq_3, q_K_noRef_eq_5, q_K_noRef_eq_6, q_O_noRef_eq_1, q_O_noRef_eq_2, q_Cap_noRef_eq_1, q_List_map_cons, q_List_map_nil, q_List_take_succ_cons, q_List_take_zero, q_List_drop_succ_cons, q_List_drop_zero, q_List_nil_append, q_List_length_cons, q_List_length_nil, q_List_all_cons, q_List_all_nil, true_and, if_true, if_false, Bool.false_eq_true, and_self, bne_iff_ne, ne_eq, Bool.and_eq_true, Bool.and_true, Bool.true_and, Bool.or_true, Bool.false_or, List.append_nil, Nat.reduceAdd, Nat.reduceEqDiff, Nat.reduceBEq, Nat.zero_add, Int.toNat_natCast, Nat.le_refl, Int.natCast_nonneg, q_learn_eq_1, not_false_eq_true, q_condK_eq_1, q_condB_eq_1, decide_true, r_vIaddr_lst, List.length_map, r_ofRow_take, encT_len, lookT_here, lookT_next, lookO_here, lookO_next, uf62r1, uf62r2, uf62r3, uf62b4, uf62b5, uf62b6, uf62b7, uf62b8, uf62r9, uf62b10]
      refine .inr ⟨_, _, rfl, ?_⟩
      refine call_tab (dead := [1000]) (ih t.args[i] (List.getElem_mem hlt) ac (by omega)) ?_ (by simp [V.within, Abs.K.within, capV, walkT]) (by simp [Cap.live, lookO, isVarO]) (by simp [walkT]) (by simp [capV, V.nrm, Abs.K.nrm, encT_norm]) ?_ ?_ ?_ ?_ (by rfl)
      · simp only [c4, walkO, q_wpLs_eq_1, q_wpLs_eq_2, q_wpL_eq_1, q_exL_eq_1, q_exL_eq_11, q_look_eq_1, q_look_eq_2, q_insT_eq_1, q_awl_eq_2, q_AE_thenL_eq_1, q_putK_eq_1, q_vBin_eq_1, q_resV_eq_1, q_binV_eq_1, q_binInt_eq_3, q_cutInt_eq_1, q_mapT_eq_1, q_mapT_eq_2, q_mapO_eq_1, q_mapO_eq_2, q_Cap_noRef_eq_1, q_V_scrub_eq_1, q_V_scrub_eq_3, q_K_scrub_eq_1, q_K_scrub_eq_2, q_K_scrub_eq_4, q_K_scrub_eq_5, q_O_scrub_eq_1, q_O_scrub_eq_2, q_putDK_eq_2, q_List_map_cons, q_List_map_nil, q_List_nil_append, q_List_cons_append, q_List_all_cons, q_List_all_nil, true_and, if_true, if_false, and_self, bne_iff_ne, ne_eq, Bool.and_eq_true, Bool.and_true, Nat.reduceEqDiff, Nat.reduceBEq, not_false_eq_true, lookT_here, lookT_next, r_map_scrub, z_scrubs_nil, z_scrubs_cons, z_oscrubs_nil, z_oscrubs_cons]
        exact Next.intro (i + 1, coll t.args[i] ac, none) rfl rfl ⟨by simp only []; omega, by simp only []; omega, hj⟩ (by simp only []; omega)
      · simp [walkT, lookO, O.within, Abs.K.within, Cap.within]
      · simp [walkT, walkO, lookO, O.nrm, Abs.K.nrm]
      · simp [walkT, walkO, lookO]
      · simp [walkT, walkO, O.within, Abs.K.within, Cap.within]
    · have c1 : ¬ (i : Int) < t.args.length := by omega
      rw [List.drop_eq_nil_of_le (by omega), collL] at hj
      simp only [c1, q_wpLs_eq_1, q_wpLs_eq_2, q_wpL_eq_1, q_exL_eq_11, q_look_eq_1, q_insT_eq_1, q_awl_eq_2, q_awl_eq_5, q_awl_eq_6, q_awl_eq_9, q_AE_thenL_eq_1, q_AE_thenL_eq_2, q_AE_inBlockL_eq_2, q_putK_eq_1, q_vBin_eq_1, q_resV_eq_1, q_binV_eq_1, q_binInt_eq_3, q_cutInt_eq_8, q_mapT_eq_1, q_mapT_eq_2, q_mapO_eq_1, q_mapO_eq_2, q_resL_eq_1, q_one_eq_2, q_V_nrm_eq_1, q_K_nrm_eq_1, q_K_nrm_eq_3, q_O_nrm_eq_1, q_O_nrm_eq_2, q_C_norm_eq_4, q_C_norm_eq_5, q_List_map_cons, q_List_map_nil, q_List_getElemQ_cons_zero, q_List_getElemQ_cons_succ, true_and, if_true, forall_eq_or_imp, forall_eq, or_false, List.mem_cons, Nat.reduceBEq, q_learn_eq_1, q_condK_eq_1, q_condB_eq_2, decide_false, norm_lst, normRows_T, normRows_ints, lookT_here, lookT_next, lookO_here, lookO_next, List.not_mem_nil, z_endSK_normal, z_endSL, uf62b7, uf62b8, uf62r9, uf62b10]
      rw [← hcoll, ← hj] at hS
      have htab := tabL_eq (T := walkT) (os := [(1000, .arr 3 1 none (ints ac)), (1005, .var 36 [.own 1000]), (1006, .var 80 [.fnk 62 [.tok 1005, .tok 1006]])]) (L := walkO ac) (by simp [walkT, walkO, lookO])
      rw [htab, ← hS]
      refine ⟨⟨rfl, rfl⟩, rfl, ?_, ?_, ?_⟩
      · simp [walkT, lookO, O.within, Abs.K.within, Cap.within]
      · simp [walkT, walkO, tabL, tabIn, lookO, likeVar]
      · simp [walkT, walkO, tabL, tabIn, lookO, likeVar]
  by_cases h2 : t.op = 2
  · rw [if_pos h2] at hS loop
    have hlen : (acc ++ [t.n]).length = acc.length + 1 := by simp
    have hop : encT t = [.int .i64 2, .int .i64 t.n, lstC 3 (t.args.map encT)] := by rw [encT_eq, h2]
    simp only [walkO, hop, q_wpLs_eq_1, q_wpLs_eq_2, q_wpL_eq_1, q_exL_eq_1, q_exL_eq_5, q_exL_eq_7, q_exL_eq_8, q_exL_eq_9, q_exL_eq_11, q_exL_eq_21, q_exL_eq_30, q_exL_eq_33, q_look_eq_1, q_look_eq_2, q_insT_eq_1, q_insO_eq_1, q_awl_eq_2, q_awl_eq_5, q_awl_eq_6, q_awl_eq_7, q_AE_thenL_eq_1, q_initT_eq_1, q_initT_eq_2, q_putK_eq_1, q_vBin_eq_1, q_resV_eq_1, q_binV_eq_1, q_binInt_eq_3, q_cutInt_eq_6, q_vFaddr_eq_1, q_loadO_eq_1, q_isV_eq_1, q_vLoad_eq_1, q_ofRow_eq_1, q_pureRow_eq_1, q_pureRow_eq_2, q_pureRow_eq_3, q_V_cells_eq_1, q_splice_eq_1, q_isVarO_eq_1, q_nlApp_eq_2, q_boxK_eq_1, q_vRow_eq_1, q_vLits_eq_1, q_vLits_eq_2, q_bsK_eq_1, q_stVarK_eq_1, q_storeK_eq_1, q_srcO_eq_1, q_srcV_eq_2, q_appK_eq_1, q_appendK_eq_1, q_mapT_eq_1, q_mapT_eq_2, q_mapO_eq_1, q_mapO_eq_2, q_delO_eq_1, q_delO_eq_2, q_freeB_eq_1, q_freeT_eq_1, q_freeT_eq_2, q_freeO_eq_1, q_freeO_eq_2, q_V_noRef_eq_1, q_V_noRef_eq_2, q_K_noRef_eq_1, q_K_noRef_eq_2, q_K_noRef_eq_3, q_K_noRef_eq_6, q_O_noRef_eq_1, q_O_noRef_eq_2, q_Cap_noRef_eq_1, q_V_scrub_eq_1, q_V_scrub_eq_3, q_K_scrub_eq_1, q_K_scrub_eq_2, q_K_scrub_eq_4, q_K_scrub_eq_5, q_O_scrub_eq_1, q_O_scrub_eq_2, q_Option_map_some, q_List_map_cons, q_List_map_nil, q_List_take_succ_cons, q_List_take_zero, q_List_drop_succ_cons, q_List_drop_zero, q_List_nil_append, q_List_foldl_cons, q_List_foldl_nil, q_List_replicate_succ, q_List_replicate_zero, q_List_set_cons_zero, q_List_length_cons, q_List_length_nil, q_List_all_cons, q_List_all_nil, true_and, if_true, if_false, Bool.false_eq_true, forall_eq, or_false, and_self, bne_iff_ne, ne_eq, Bool.and_eq_true, Bool.and_true, Bool.true_and, Bool.or_true, Bool.false_or, BEq.rfl, List.append_nil, List.mem_cons, Nat.reduceAdd, Nat.reduceEqDiff, Nat.reduceLeDiff, Nat.reduceLT, Nat.reduceBEq, Nat.zero_add, Nat.add_zero, Nat.le_refl, q_learn_eq_1, not_false_eq_true, q_condK_eq_1, q_condB_eq_1, r_vLen_lst, ints_len, List.length_map, lookT_here, lookT_next, lookO_here, lookO_next, List.not_mem_nil, uf62, uf62b12, uf62r13, uf62b14, uf62r15, uf62b16, uf62r17, uf62b18, uf62b19, uf62r20, uf62b21]
    refine ⟨by omega, by omega, ?_⟩
    have := loop (acc ++ [t.n]) (some false) (by omega) rfl
    rw [hop] at this
    exact this _ _ rfl (by rw [ints_snoc]; rfl)
  · rw [if_neg h2] at hS loop
    have := loop acc none (by omega) rfl
    rw [encT_eq] at this
    simp only [walkO, encT_eq t, h2, q_wpLs_eq_1, q_wpLs_eq_2, q_wpL_eq_1, q_exL_eq_1, q_exL_eq_5, q_exL_eq_7, q_exL_eq_8, q_exL_eq_9, q_exL_eq_11, q_exL_eq_21, q_exL_eq_30, q_exL_eq_33, q_look_eq_1, q_look_eq_2, q_insT_eq_1, q_insO_eq_1, q_awl_eq_1, q_awl_eq_2, q_awl_eq_5, q_awl_eq_6, q_awl_eq_7, q_AE_thenL_eq_1, q_initT_eq_1, q_initT_eq_2, q_putK_eq_1, q_vBin_eq_1, q_resV_eq_1, q_binV_eq_1, q_binInt_eq_3, q_cutInt_eq_6, q_vFaddr_eq_1, q_loadO_eq_1, q_isV_eq_1, q_vLoad_eq_1, q_ofRow_eq_1, q_pureRow_eq_1, q_pureRow_eq_2, q_pureRow_eq_3, q_V_cells_eq_1, q_splice_eq_1, q_isVarO_eq_1, q_nlApp_eq_2, q_boxK_eq_1, q_vRow_eq_1, q_vLits_eq_1, q_vLits_eq_2, q_bsK_eq_1, q_stVarK_eq_1, q_storeK_eq_1, q_srcO_eq_1, q_srcV_eq_2, q_appK_eq_1, q_appendK_eq_1, q_mapT_eq_1, q_mapT_eq_2, q_mapO_eq_1, q_mapO_eq_2, q_delO_eq_1, q_delO_eq_2, q_freeB_eq_1, q_freeT_eq_1, q_freeT_eq_2, q_freeO_eq_1, q_freeO_eq_2, q_V_noRef_eq_1, q_V_noRef_eq_2, q_K_noRef_eq_1, q_K_noRef_eq_2, q_K_noRef_eq_3, q_K_noRef_eq_6, q_O_noRef_eq_1, q_O_noRef_eq_2, q_Cap_noRef_eq_1, q_V_scrub_eq_1, q_V_scrub_eq_3, q_K_scrub_eq_1, q_K_scrub_eq_2, q_K_scrub_eq_4, q_K_scrub_eq_5, q_O_scrub_eq_1, q_O_scrub_eq_2, q_Option_map_some, q_List_map_cons, q_List_map_nil, q_List_take_succ_cons, q_List_take_zero, q_List_drop_succ_cons, q_List_drop_zero, q_List_nil_append, q_List_foldl_cons, q_List_foldl_nil, q_List_replicate_succ, q_List_replicate_zero, q_List_set_cons_zero, q_List_length_cons, q_List_length_nil, q_List_all_cons, q_List_all_nil, true_and, if_true, if_false, Bool.false_eq_true, false_implies, forall_const, forall_eq, or_false, and_self, bne_iff_ne, ne_eq, Bool.and_eq_true, Bool.and_true, Bool.true_and, Bool.or_true, Bool.false_or, List.append_nil, List.mem_cons, Nat.reduceAdd, Nat.reduceEqDiff, Nat.reduceLeDiff, Nat.reduceLT, Nat.reduceBEq, Nat.zero_add, Nat.add_zero, Nat.le_refl, q_learn_eq_1, not_false_eq_true, q_condK_eq_1, condB_beq, r_vLen_lst, ints_len, List.length_map, lookT_here, lookT_next, lookO_here, lookO_next, List.not_mem_nil, uf62, uf62b12, uf62r13, uf62b14, uf62r15, uf62b16, uf62r17, uf62b18, uf62b19, uf62r20, uf62b21]
    exact this _ _ rfl rfl
theorem szT_nodes : ∀ (f : Nat), (∀ (t : Term) (k : Int), 0 ≤ nodes t k f → (szT t : Int) ≤ k - nodes t k f) ∧ (∀ (l : List Term) (k : Int), 0 ≤ nodesL l k f → (szL l : Int) ≤ k - nodesL l k f) := by
  intro f
  induction f with
  | zero =>
    have h1 : ∀ (t : Term) (k : Int), 0 ≤ nodes t k ((0 : Nat) : Int) → (szT t : Int) ≤ k - nodes t k ((0 : Nat) : Int) := by
      intro t k h
      rw [nodes_eq, if_pos (by omega)] at h
      omega
    refine ⟨h1, fun l => ?_⟩
    induction l with
    | nil => intro k h; simp [nodesL, szL]
    | cons a l ih =>
      intro k h
      simp only [nodesL] at h ⊢
      by_cases hk : k < 0
      · rw [if_pos hk] at h; omega
      · rw [if_neg hk] at h ⊢
        have := ih _ h
        by_cases hn : nodes a k ((0 : Nat) : Int) < 0
        · rw [nodesL_neg _ _ _ hn] at h; omega
        · have := h1 a k (by omega)
          rw [szL]; omega
  | succ f ih =>
    have h1 : ∀ (t : Term) (k : Int), 0 ≤ nodes t k ((f + 1 : Nat) : Int) → (szT t : Int) ≤ k - nodes t k ((f + 1 : Nat) : Int) := by
      intro t k h
      rw [nodes_eq, if_neg (by omega)] at h ⊢
      have e : ((f + 1 : Nat) : Int) - 1 = (f : Nat) := by omega
      rw [e] at h ⊢
      have := ih.2 t.args (k - 1) h
      rw [szT_eq]; omega
    refine ⟨h1, fun l => ?_⟩
    induction l with
    | nil => intro k h; simp [nodesL, szL]
    | cons a l ih =>
      intro k h
      simp only [nodesL] at h ⊢
      by_cases hk : k < 0
      · rw [if_pos hk] at h; omega
      · rw [if_neg hk] at h ⊢
        have := ih _ h
        by_cases hn : nodes a k ((f + 1 : Nat) : Int) < 0
        · rw [nodesL_neg _ _ _ hn] at h; omega
        · have := h1 a k (by omega)
          rw [szL]; omega
theorem s35 (t : Term) : Spec Try.prog 35 [.agg (encT t)] (fun r => r = .k (.newl 3 1 none (ints (if (checkT t).2 ≠ 0 then [] else Lib.compact (sortI (coll t [])))))) := by
  refine Spec.of_awlS hf35 okf35 (by simp) fun S hS => ?_
  simp only [q_wpLs_eq_1, q_wpLs_eq_2, q_wpL_eq_1, q_exL_eq_2, q_exL_eq_5, q_exL_eq_8, q_exL_eq_28, q_look_eq_1, q_insT_eq_1, q_insO_eq_1, q_awl_eq_2, q_awl_eq_5, q_AE_thenL_eq_1, q_initT_eq_1, q_initT_eq_2, q_putK_eq_1, q_loadO_eq_1, q_isV_eq_1, q_vLoad_eq_1, q_boxK_eq_1, q_freeB_eq_1, q_freeT_eq_1, q_freeT_eq_2, q_freeO_eq_1, q_freeO_eq_2, q_V_noRef_eq_1, q_V_noRef_eq_2, q_K_noRef_eq_3, q_O_noRef_eq_1, q_List_map_cons, q_List_map_nil, q_List_drop_zero, true_and, bne_iff_ne, ne_eq, Bool.and_true, Bool.or_true, Bool.false_or, Nat.reduceEqDiff, Nat.reduceBEq, Nat.zero_add, Nat.le_refl, not_false_eq_true, List.length_map, r_ofRow_take, encT_len, lookT_here, lookT_next, lookO_here, lookO_next, r_all_noRef, uf35, uf35r18, uf35b19, uf35b20, uf35r21, uf35b22]
  refine call_s (s31 t) ?_
  simp only [pairV, q_wpLs_eq_1, q_wpLs_eq_2, q_wpL_eq_1, q_exL_eq_1, q_exL_eq_2, q_exL_eq_4, q_exL_eq_8, q_exL_eq_9, q_exL_eq_11, q_exL_eq_17, q_exL_eq_27, q_exL_eq_29, q_look_eq_1, q_look_eq_2, q_insT_eq_1, q_insO_eq_1, q_awl_eq_1, q_awl_eq_2, q_awl_eq_5, q_awl_eq_6, q_awl_eq_10, q_AE_thenL_eq_1, q_AE_thenL_eq_3, q_putK_eq_1, q_vBin_eq_1, q_resV_eq_1, q_binV_eq_1, q_binInt_eq_3, q_cutInt_eq_7, q_vExtr_eq_1, q_loadO_eq_1, q_isV_eq_1, q_vLoad_eq_1, q_ofRow_eq_1, q_pureRow_eq_3, q_V_cells_eq_1, q_splice_eq_1, q_isVarO_eq_1, q_isArrO_eq_1, q_stVarK_eq_1, q_storeK_eq_1, q_mapT_eq_1, q_mapT_eq_2, q_mapO_eq_1, q_mapO_eq_2, q_freeB_eq_1, q_freeT_eq_1, q_freeT_eq_2, q_freeO_eq_1, q_freeO_eq_2, q_V_noRef_eq_1, q_V_noRef_eq_2, q_V_noRef_eq_4, q_K_noRef_eq_1, q_K_noRef_eq_2, q_K_noRef_eq_3, q_O_noRef_eq_1, q_O_noRef_eq_2, q_V_noRefL_eq_1, q_V_noRefL_eq_2, q_endK_eq_2, q_endL_eq_1, q_endV_eq_1, q_resL_eq_1, q_resL_eq_2, q_resX_eq_1, q_one_eq_1, q_V_nrm_eq_1, q_V_nrm_eq_2, q_V_nrm_eq_4, q_K_nrm_eq_1, q_K_nrm_eq_3, q_V_nrmL_eq_1, q_V_nrmL_eq_2, q_O_nrm_eq_1, q_O_nrm_eq_2, q_V_owns_eq_1, q_K_owns_eq_1, q_V_toNew_eq_1, q_K_toNew_eq_2, q_C_norm_eq_4, q_C_norm_eq_5, q_C_normRows_eq_1, q_List_map_cons, q_List_map_nil, q_List_take_succ_cons, q_List_take_zero, q_List_drop_succ_cons, q_List_drop_zero, q_List_nil_append, q_List_length_cons, q_List_length_nil, q_List_getElemQ_cons_zero, q_List_getElemQ_cons_succ, q_List_all_cons, q_List_all_nil, true_and, if_true, if_false, Bool.false_eq_true, and_self, bne_iff_ne, ne_eq, Bool.and_eq_true, Bool.and_true, Bool.true_and, Bool.or_true, Bool.true_or, Bool.false_or, BEq.rfl, List.append_nil, List.nodup_nil, List.nodup_cons, Nat.reduceEqDiff, Nat.reduceBEq, Nat.succ_ne_self, Nat.zero_add, Nat.le_refl, q_learn_eq_1, not_false_eq_true, q_condK_eq_1, condB_bne, encT_norm, List.length_map, r_ofRow_take, encT_len, lookT_here, lookT_next, lookO_here, lookO_next, List.not_mem_nil, r_all_noRef, z_capP, z_caps_nil, z_caps_ptr, z_fnV, z_fnP2, z_pureCaps_tok, r_map_nrm, q_awl_eq_12, z_noAL, ownK_eq, q_awl_eq_13, z_swO_nil, z_swO_cons, z_sw, z_swC_tok, z_swK_c, z_swK_own, z_swK_ptr, z_swK_fnk, z_swV_k, z_swV_agg, z_swV_any, z_swV_tup, z_swO_var, z_swO_arr, z_map_sw, uf35r5, uf35b6, uf35r7, uf35b8, uf35r9, uf35b10, uf35r11, uf35b12, uf35r13, uf35b14, uf35b15, uf35r16, uf35b17]
  refine ⟨fun h => ?_, fun h => ?_⟩
  · rw [if_pos h] at hS
    exact hS
  · rw [if_neg (by simp [h])] at hS
    have hck : (checkT t).2 = 0 := h
    have hsz : szT t ≤ 60 := by
      have hn : ¬ nodes t 60 8 < 0 := by
        intro hn
        rw [checkT, if_pos hn] at hck
        simp at hck
      have := (szT_nodes 8).1 t 60 (by simp; omega)
      have e8 : ((8 : Nat) : Int) = 8 := rfl
      rw [e8] at this
      omega
    have hcl := coll_len t []
    simp only [List.length_nil, Nat.zero_add] at hcl
    refine .inr ⟨_, _, rfl, ?_⟩
    refine call_tab (dead := [1000]) (s62 t [] (by simp; omega)) ?_ (by simp [V.within, Abs.K.within, capV, walkT]) (by simp [Cap.live, lookO, isVarO]) (by simp [walkT]) (by simp [capV, V.nrm, Abs.K.nrm, encT_norm]) ?_ ?_ ?_ ?_ (by rfl)
    · simp only [walkO, q_wpLs_eq_1, q_wpLs_eq_2, q_wpL_eq_1, q_exL_eq_8, q_exL_eq_28, q_look_eq_1, q_insT_eq_1, q_awl_eq_2, q_awl_eq_5, q_AE_thenL_eq_1, q_putK_eq_1, q_loadO_eq_1, q_isV_eq_1, q_vLoad_eq_1, q_ofRow_eq_1, q_pureRow_eq_3, q_mapT_eq_1, q_mapT_eq_2, q_mapO_eq_1, q_mapO_eq_2, q_Cap_noRef_eq_1, q_V_scrub_eq_1, q_V_scrub_eq_3, q_V_scrub_eq_6, q_K_scrub_eq_1, q_K_scrub_eq_2, q_K_scrub_eq_4, q_K_scrub_eq_5, q_O_scrub_eq_1, q_O_scrub_eq_2, q_putDK_eq_2, q_List_map_cons, q_List_map_nil, q_List_take_succ_cons, q_List_take_zero, q_List_drop_zero, q_List_nil_append, q_List_cons_append, q_List_length_cons, q_List_length_nil, q_List_all_cons, q_List_all_nil, true_and, if_true, if_false, Bool.false_eq_true, and_self, bne_iff_ne, ne_eq, Bool.and_eq_true, Bool.and_true, Nat.reduceEqDiff, Nat.reduceBEq, Nat.zero_add, Nat.le_refl, not_false_eq_true, lookT_here, lookT_next, lookO_here, r_map_scrub, z_scrubs_nil, z_scrubs_cons, z_oscrubs_nil, z_oscrubs_cons, uf35r3, uf35b4]
      refine call_sort (coll t []) (s49 (by omega)) rfl ?_
      simp only [q_wpLs_eq_1, q_wpLs_eq_2, q_wpL_eq_1, q_exL_eq_8, q_exL_eq_28, q_look_eq_1, q_insT_eq_1, q_insO_eq_1, q_awl_eq_2, q_awl_eq_5, q_AE_thenL_eq_1, q_putK_eq_1, q_loadO_eq_1, q_isV_eq_1, q_vLoad_eq_1, q_ofRow_eq_1, q_pureRow_eq_3, q_List_map_cons, q_List_map_nil, q_List_take_succ_cons, q_List_take_zero, q_List_drop_zero, q_List_length_cons, q_List_length_nil, true_and, if_false, Bool.false_eq_true, Nat.reduceBEq, Nat.zero_add, Nat.le_refl, lookT_here, lookT_next, lookO_here, lookO_next, uf35r1, uf35b2]
      refine call_compact (sortI (coll t [])) s50 rfl ?_
      simp only [q_wpLs_eq_1, q_wpLs_eq_2, q_wpL_eq_1, q_exL_eq_1, q_look_eq_1, q_insT_eq_1, q_insO_eq_1, q_awl_eq_10, q_isArrO_eq_1, q_mapT_eq_1, q_mapT_eq_2, q_mapO_eq_1, q_mapO_eq_2, q_Cap_noRef_eq_1, q_V_scrub_eq_1, q_V_scrub_eq_3, q_V_scrub_eq_5, q_V_scrub_eq_6, q_K_scrub_eq_1, q_K_scrub_eq_2, q_K_scrub_eq_4, q_K_scrub_eq_5, q_O_scrub_eq_1, q_O_scrub_eq_2, q_endK_eq_2, q_endL_eq_1, q_endV_eq_1, q_resL_eq_1, q_resL_eq_2, q_resX_eq_1, q_one_eq_1, q_V_nrm_eq_1, q_V_nrm_eq_2, q_V_nrm_eq_6, q_K_nrm_eq_1, q_K_nrm_eq_3, q_O_nrm_eq_1, q_O_nrm_eq_2, q_V_owns_eq_1, q_K_owns_eq_1, q_V_toNew_eq_1, q_K_toNew_eq_2, q_C_norm_eq_1, q_C_norm_eq_4, q_C_norm_eq_5, q_C_normRows_eq_1, q_List_map_cons, q_List_map_nil, q_List_all_cons, q_List_all_nil, q_List_isEmpty_nil, true_and, if_true, if_false, and_self, bne_iff_ne, ne_eq, Bool.and_eq_true, Bool.and_true, List.nodup_nil, List.nodup_cons, Nat.reduceEqDiff, not_false_eq_true, normRows_ints, encT_norm, lookT_here, lookO_here, List.not_mem_nil, r_map_scrub, r_map_nrm, q_C_norm_eq_7]
      rw [intRows_norm]
      exact hS
    · simp [walkT, lookO, O.within, Abs.K.within, Cap.within]
    · simp [walkT, walkO, lookO, O.nrm, Abs.K.nrm, ints]
    · simp [walkT, walkO, lookO]
    · simp [walkT, walkO, O.within, Abs.K.within, Cap.within]
end Go.Abs


namespace Go.Abs
inductive WT : Term → Int → Prop where
  | int (n : Int) : inN n → WT (.mk 0 n []) 0
  | bool (n : Int) : n = 0 ∨ n = 1 → WT (.mk 1 n []) 1
  | var (n : Int) : 0 ≤ n → n < 20 → WT (.mk 2 n []) (if n < 7 then 0 else 1)
  | not (a : Term) : WT a 1 → WT (.mk 3 0 [a]) 1
  | andor (o : Int) (a b : Term) : o = 4 ∨ o = 5 → WT a 1 → WT b 1 → WT (.mk o 0 [a, b]) 1
  | ite (a b c : Term) (k : Int) : WT a 1 → WT b k → WT c k → WT (.mk 6 0 [a, b, c]) k
  | less (a b : Term) : WT a 0 → WT b 0 → WT (.mk 7 0 [a, b]) 1
  | eq (a b : Term) (k : Int) : WT a k → WT b k → WT (.mk 8 0 [a, b]) 1
  | ar (o : Int) (a b : Term) : 9 ≤ o → o ≤ 13 → WT a 0 → WT b 0 → WT (.mk o 0 [a, b]) 0
theorem chkA_ok2 : ∀ (l : List Term) (ty : List Int), (chkA l ty).1 = 0 → (∀ x ∈ l, (chk x).2 = 0) ∧ (chkA l ty).2 = ty ++ l.map fun x => (chk x).1
  | [], ty, _ => by simp [chkA]
  | t :: l, ty, h => by
    simp only [chkA] at h ⊢
    split at h
    · rename_i hc; exact absurd h hc
    · rename_i hc
      obtain ⟨h1, h2⟩ := chkA_ok2 l _ h
      rw [if_neg hc, h2]
      refine ⟨fun x hx => ?_, by simp⟩
      rcases List.mem_cons.1 hx with rfl | hx
      · simpa using hc
      · exact h1 x hx
theorem node_leaf {t : Term} {ty : List Int} (r : ¬ (t.op < 0 ∨ t.op > 13)) (h3 : t.op = 0 ∨ t.op = 1 ∨ t.op = 2) : node t ty = leaf t := by simp only [node, if_neg r, if_pos h3]
theorem node_bad {t : Term} {ty : List Int} (r : t.op < 0 ∨ t.op > 13) : node t ty = (0, 1) := by simp only [node, if_pos r]
theorem node_form {t : Term} {ty : List Int} (r : ¬ (t.op < 0 ∨ t.op > 13)) (h3 : ¬ (t.op = 0 ∨ t.op = 1 ∨ t.op = 2)) (h : ty.length ≠ (shapeArgs t.op).length ∨ t.n ≠ 0) : node t ty = (0, 2) := by simp only [node, if_neg r, if_neg h3, if_pos h]
theorem leaf_args {t : Term} (h : (leaf t).2 = 0) : t.args = [] := by
  by_cases hl : t.args.length > 0
  · simp only [leaf, if_pos hl] at h; simp at h
  · exact List.length_eq_zero_iff.1 (by omega)
theorem leaf_0 {t : Term} (ha : t.args = []) (h0 : t.op = 0) (h : (leaf t).2 = 0) : leaf t = (0, 0) ∧ inN t.n := by
  have hl : ¬ (t.args.length > 0) := by rw [ha]; simp
  by_cases hc : cut t.n ≠ t.n
  · simp only [leaf, if_neg hl, if_pos h0, if_pos hc] at h; simp at h
  · simp only [leaf, if_neg hl, if_pos h0, if_neg hc]
    exact ⟨trivial, (cut_eq t.n).1 (by simpa using hc)⟩
theorem leaf_1 {t : Term} (ha : t.args = []) (h0 : t.op = 1) (h : (leaf t).2 = 0) : leaf t = (1, 0) ∧ (t.n = 0 ∨ t.n = 1) := by
  have hl : ¬ (t.args.length > 0) := by rw [ha]; simp
  have h0' : ¬ t.op = 0 := by omega
  by_cases hc : t.n < 0 ∨ t.n > 1
  · simp only [leaf, if_neg hl, if_neg h0', if_pos h0, if_pos hc] at h; simp at h
  · simp only [leaf, if_neg hl, if_neg h0', if_pos h0, if_neg hc]
    exact ⟨trivial, by omega⟩
theorem leaf_2 {t : Term} (ha : t.args = []) (h0 : t.op = 2) (h : (leaf t).2 = 0) : leaf t = (if t.n < 7 then 0 else 1, 0) ∧ 0 ≤ t.n ∧ t.n < 20 := by
  have hl : ¬ (t.args.length > 0) := by rw [ha]; simp
  have h0' : ¬ t.op = 0 := by omega
  have h1' : ¬ t.op = 1 := by omega
  by_cases hc : t.n < 0 ∨ t.n > 19
  · simp only [leaf, varType, if_neg hl, if_neg h0', if_neg h1', if_pos hc] at h; simp at h
  · simp only [leaf, varType, if_neg hl, if_neg h0', if_neg h1', if_neg hc]
    refine ⟨?_, by omega, by omega⟩
    by_cases h7 : t.n < 7
    · simp only [if_pos h7]
    · simp only [if_neg h7]
theorem Term.eta {t : Term} {o n : Int} {a : List Term} (h1 : t.op = o) (h2 : t.n = n) (h3 : t.args = a) : t = .mk o n a := by cases t; simp_all [Term.op, Term.n, Term.args]
theorem wt_op {o : Int} {a : List Term} {ty : List Int} (hty : ty = a.map fun x => (chk x).1) (ih : ∀ x ∈ a, WT x (chk x).1) (h3 : 3 ≤ o) (h13 : o ≤ 13) (har : (a.length : Int) = arity o) (hk : kindB o ty = true) : WT (.mk o 0 a) (kindK o ty) := by
  subst hty
  have n3 : ¬ (o = 0 ∨ o = 1 ∨ o = 2) := by omega
  by_cases e3 : o = 3
  · subst e3
    have h1 : arity 3 = 1 := by decide
    obtain ⟨x, rfl⟩ := list1 (l := a) (by omega)
    have hk : (chk x).1 = 1 := of_decide_eq_true hk
    have := ih x (by simp)
    rw [hk] at this
    exact WT.not x this
  by_cases e6 : o = 6
  · subst e6
    have h1 : arity 6 = 3 := by decide
    obtain ⟨x, y, z, rfl⟩ := list3 (l := a) (by omega)
    have hk : (chk x).1 = 1 ∧ (chk y).1 = (chk z).1 := of_decide_eq_true hk
    have wx := ih x (by simp)
    have wy := ih y (by simp)
    have wz := ih z (by simp)
    rw [hk.1] at wx
    rw [← hk.2] at wz
    exact WT.ite x y z _ wx wy wz
  have h2 : arity o = 2 := by rw [arity, if_neg n3, if_neg e3, if_neg e6]
  obtain ⟨x, y, rfl⟩ := list2 (l := a) (by omega)
  have wx := ih x (by simp)
  have wy := ih y (by simp)
  by_cases e45 : o = 4 ∨ o = 5
  · have hk2 : (chk x).1 = 1 ∧ (chk y).1 = 1 := by
      rw [kindB, if_neg e3, if_pos e45] at hk
      exact of_decide_eq_true hk
    rw [hk2.1] at wx
    rw [hk2.2] at wy
    have e : kindK o (List.map (fun x => (chk x).1) [x, y]) = 1 := by rw [kindK, if_pos (by omega)]
    rw [e]
    exact WT.andor o x y e45 wx wy
  by_cases e8 : o = 8
  · subst e8
    have hk2 : (chk x).1 = (chk y).1 := of_decide_eq_true hk
    rw [← hk2] at wy
    exact WT.eq x y _ wx wy
  have hk2 : (chk x).1 = 0 ∧ (chk y).1 = 0 := by
    rw [kindB, if_neg e3, if_neg e45, if_neg e6, if_neg e8] at hk
    exact of_decide_eq_true hk
  rw [hk2.1] at wx
  rw [hk2.2] at wy
  by_cases e7 : o = 7
  · subst e7; exact WT.less x y wx wy
  have e : kindK o (List.map (fun x => (chk x).1) [x, y]) = 0 := by rw [kindK, if_neg (by omega), if_neg e6]
  rw [e]
  exact WT.ar o x y (by omega) (by omega) wx wy
theorem wt_of : ∀ (t : Term), (chk t).2 = 0 → WT t (chk t).1 := by
  have main : ∀ t : Term, (∀ x ∈ t.args, (chk x).2 = 0 → WT x (chk x).1) → (chk t).2 = 0 → WT t (chk t).1 := by
    intro t ih h
    rw [chk_eq] at h ⊢
    by_cases h1 : (chkA t.args []).1 ≠ 0
    · rw [if_pos h1] at h
      exact absurd h h1
    have h1' : (chkA t.args []).1 = 0 := by simpa using h1
    obtain ⟨g1, g2⟩ := chkA_ok2 t.args [] h1'
    rw [if_neg h1] at h ⊢
    rw [g2, List.nil_append] at h ⊢
    have ih' : ∀ x ∈ t.args, WT x (chk x).1 := fun x hx => ih x hx (g1 x hx)
    by_cases r : t.op < 0 ∨ t.op > 13
    · rw [node_bad r] at h; simp at h
    by_cases h3 : t.op = 0 ∨ t.op = 1 ∨ t.op = 2
    · rw [node_leaf r h3] at h ⊢
      have ha := leaf_args h
      rcases h3 with h0 | h0 | h0
      · obtain ⟨e1, e2⟩ := leaf_0 ha h0 h
        rw [e1, Term.eta h0 rfl ha]
        exact WT.int _ e2
      · obtain ⟨e1, e2⟩ := leaf_1 ha h0 h
        rw [e1, Term.eta h0 rfl ha]
        exact WT.bool _ e2
      · obtain ⟨e1, e2, e3⟩ := leaf_2 ha h0 h
        rw [e1]
        have := WT.var t.n e2 e3
        rw [← Term.eta (t := t) h0 rfl ha] at this
        exact this
    have hf : ¬ ((t.args.map fun x => (chk x).1).length ≠ (shapeArgs t.op).length ∨ t.n ≠ 0) := by
      intro hc
      rw [node_form r h3 hc] at h; simp at h
    simp only [not_or, Decidable.not_not] at hf
    obtain ⟨hlen, hn0⟩ := hf
    have h3' : 3 ≤ t.op := by omega
    have har := arity_shape h3'
    have hty := node_typed t (t.args.map fun x => (chk x).1) (by intro x hx; obtain ⟨y, _, rfl⟩ := List.mem_map.1 hx; exact chk_ty y) (by omega) (by omega) (by rw [hlen]; exact har.symm) h3' hn0
    rw [hty] at h ⊢
    by_cases hk : kindB t.op (t.args.map fun x => (chk x).1) = true
    · rw [if_pos hk]
      have := wt_op rfl ih' h3' (by omega) (by rw [har, ← hlen, List.length_map]) hk
      rw [← Term.eta (t := t) rfl hn0 rfl] at this
      exact this
    · rw [if_neg hk] at h
      simp at h
  refine Term.ind fun o n a ih => main _ ih
def VR (k : Int) (c : Cell) : Prop := if c.known = true then inN c.n ∧ (k = 1 → c.n = 0 ∨ c.n = 1) else c.n = 0
theorem VR.unknown (k : Int) : VR k ⟨false, 0⟩ := by simp [VR]
theorem VR.yes (k : Int) (b : Bool) : VR k (yes b) := by cases b <;> simp [VR, Abs.yes, inN]
theorem cut_in (n : Int) : inN (cut n) := by unfold inN cut; omega
theorem VR.logic {a b : Cell} {k : Int} (hk : k = 0 ∨ k = 1) : VR 1 (logic a b k) := by
  unfold Abs.logic
  split
  · rcases hk with rfl | rfl <;> simp [VR, inN]
  · split
    · rcases hk with rfl | rfl <;> simp [VR, inN]
    · exact VR.unknown 1
theorem VR.number {op a b : Int} (ha : inN a) (hb : inN b) : VR (if op = 7 ∨ op = 8 then 1 else 0) (number op a b) := by
  unfold Abs.number
  by_cases h7 : op = 7
  · rw [if_pos h7]; exact VR.yes _ _
  by_cases h8 : op = 8
  · rw [if_neg h7, if_pos h8]; exact VR.yes _ _
  rw [if_neg h7, if_neg h8, if_neg (by omega)]
  unfold inN at ha hb
  have c1 := cut_in (a + b)
  have c2 := cut_in (a - b)
  have c3 := cut_in (a * b)
  unfold inN at c1 c2 c3
  unfold times
  (repeat' split) <;> simp [VR, inN] <;> omega
theorem VR.value {n : Int} {cells : List Cell} (h0 : 0 ≤ n) (h20 : n < 20) : VR (if n < 7 then 0 else 1) (valueC n cells) := by
  have hv : (varType n).getD 0 = if n < 7 then 0 else 1 := by
    unfold varType
    rw [if_neg (by omega)]
    split <;> rfl
  have hk : (if n < 7 then (0 : Int) else 1) = 0 ∨ (if n < 7 then (0 : Int) else 1) = 1 := by split <;> simp
  generalize (if n < 7 then (0 : Int) else 1) = k at hv hk ⊢
  unfold valueC
  rw [hv]
  have hc := cut_in (cells.getD n.toNat ⟨false, 0⟩).n
  split
  · exact VR.unknown _
  split
  · exact VR.unknown _
  split
  · rename_i hz
    simp only [VR, if_true]
    exact ⟨hc, fun h => by omega⟩
  · split <;> simp [VR, inN]
section
variable (c : List Cell)
theorem ev_int (n : Int) : eval (.mk 0 n []) c = ⟨true, n⟩ := by rw [eval_eq]; simp [Term.op, Term.n]
theorem ev_bool (n : Int) : eval (.mk 1 n []) c = ⟨true, n⟩ := by rw [eval_eq]; simp [Term.op, Term.n]
theorem ev_var (n : Int) (a : List Term) : eval (.mk 2 n a) c = valueC n c := by rw [eval_eq]; simp [Term.op, Term.n]
theorem ev_not (n : Int) (a : Term) : eval (.mk 3 n [a]) c = if (eval a c).known = false then ⟨false, 0⟩ else ⟨true, 1 - (eval a c).n⟩ := by rw [eval_eq]; simp [Term.op, Term.args, evalN]
theorem ev_and (n : Int) (a b : Term) : eval (.mk 4 n [a, b]) c = logic (eval a c) (eval b c) 0 := by rw [eval_eq]; simp [Term.op, Term.args, evalN]
theorem ev_or (n : Int) (a b : Term) : eval (.mk 5 n [a, b]) c = logic (eval a c) (eval b c) 1 := by rw [eval_eq]; simp [Term.op, Term.args, evalN]
theorem ev_ite (n : Int) (x y z : Term) : eval (.mk 6 n [x, y, z]) c = if (eval x c).known = true then ([eval x c, eval y c, eval z c].getD (2 - (eval x c).n).toNat ⟨false, 0⟩)
    else if (eval y c).known = true ∧ (eval z c).known = true ∧ (eval y c).n = (eval z c).n then eval y c else ⟨false, 0⟩ := by rw [eval_eq]; simp [Term.op, Term.args, evalN]
theorem ev_bin {o : Int} (h7 : 7 ≤ o) (n : Int) (a b : Term) : eval (.mk o n [a, b]) c = if (eval a c).known = false ∨ (eval b c).known = false then ⟨false, 0⟩ else number o (eval a c).n (eval b c).n := by
  rw [eval_eq]
  have e0 : ¬ (o = 0 ∨ o = 1) := by omega
  have e2 : ¬ o = 2 := by omega
  have e3 : ¬ o = 3 := by omega
  have e4 : ¬ o = 4 := by omega
  have e5 : ¬ o = 5 := by omega
  have e6 : ¬ o = 6 := by omega
  simp [Term.op, Term.args, evalN, e0, e2, e3, e4, e5, e6]
end
theorem number_known (o a b : Int) : (number o a b).known = true := by
  unfold number
  (repeat' split) <;> simp [yes] <;> (split <;> rfl)
theorem vr_eval {t : Term} {k : Int} (h : WT t k) (cells : List Cell) : VR k (eval t cells) := by
  induction h with
  | int n h => rw [eval_eq]; simp only [Term.op, Term.n]; simp [VR, h]
  | bool n h => rw [eval_eq]; simp only [Term.op, Term.n]; simp [VR, inN, h]; omega
  | var n h0 h20 => rw [eval_eq]; simp only [Term.op, Term.n]; simpa using VR.value (cells := cells) h0 h20
  | not a _ ih =>
    rw [eval_eq]
    simp only [Term.op, Term.n, Term.args, List.map]
    generalize eval a cells = c at ih
    obtain ⟨ck, cn⟩ := c
    cases ck
    · simp [evalN, VR]
    · have ih' : cn = 0 ∨ cn = 1 := by simpa [VR, inN] using ih.2 rfl
      rcases ih' with rfl | rfl <;> simp [evalN, VR, inN]
  | andor o a b ho _ _ iha ihb =>
    rw [eval_eq]
    simp only [Term.op, Term.n, Term.args, List.map]
    rcases ho with rfl | rfl
    · simpa [evalN] using VR.logic (a := eval a cells) (b := eval b cells) (k := 0) (.inl rfl)
    · simpa [evalN] using VR.logic (a := eval a cells) (b := eval b cells) (k := 1) (.inr rfl)
  | ite a b c k _ _ _ iha ihb ihc =>
    rw [ev_ite]
    split
    · rename_i hx
      simp only [VR, hx, if_true] at iha
      rcases iha.2 trivial with h0 | h0 <;> rw [h0]
      · exact ihc
      · exact ihb
    · split
      · exact ihb
      · exact VR.unknown _
  | less a b _ _ iha ihb =>
    rw [eval_eq]
    simp only [Term.op, Term.n, Term.args, List.map]
    generalize eval a cells = x at iha
    generalize eval b cells = y at ihb
    obtain ⟨xk, xn⟩ := x
    obtain ⟨yk, yn⟩ := y
    cases xk <;> cases yk <;> simp [evalN, VR.unknown]
    have := VR.number (op := 7) (a := xn) (b := yn) (by simpa [VR] using iha.1) (by simpa [VR] using ihb.1)
    simpa using this
  | eq a b k _ _ iha ihb =>
    rw [eval_eq]
    simp only [Term.op, Term.n, Term.args, List.map]
    generalize eval a cells = x at iha
    generalize eval b cells = y at ihb
    obtain ⟨xk, xn⟩ := x
    obtain ⟨yk, yn⟩ := y
    cases xk <;> cases yk <;> simp [evalN, VR.unknown]
    have := VR.number (op := 8) (a := xn) (b := yn) (by simpa [VR] using iha.1) (by simpa [VR] using ihb.1)
    simpa using this
  | ar o a b h9 h13 _ _ iha ihb =>
    rw [eval_eq]
    simp only [Term.op, Term.n, Term.args, List.map]
    generalize eval a cells = x at iha
    generalize eval b cells = y at ihb
    obtain ⟨xk, xn⟩ := x
    obtain ⟨yk, yn⟩ := y
    have e0 : ¬ (o = 0 ∨ o = 1) := by omega
    have e2 : ¬ o = 2 := by omega
    have e3 : ¬ o = 3 := by omega
    have e4 : ¬ o = 4 := by omega
    have e5 : ¬ o = 5 := by omega
    have e6 : ¬ o = 6 := by omega
    cases xk <;> cases yk <;> simp [evalN, VR.unknown, e0, e2, e3, e4, e5, e6]
    have := VR.number (op := o) (a := xn) (b := yn) (by simpa [VR] using iha.1) (by simpa [VR] using ihb.1)
    rw [if_neg (by omega)] at this
    exact this
end Go.Abs


namespace Go.Abs
mutual
def runN : Term → List Cell → List Int
  | .mk o n a, c => if o = 0 ∨ o = 1 then [] else if o = 2 then (if (valueC n c).known = true then [] else [n])
    else if o = 6 ∧ ((evalL a c).getD 0 ⟨false, 0⟩).known = true then (runNL a c).getD (2 - ((evalL a c).getD 0 ⟨false, 0⟩).n).toNat []
    else if (evalN o (evalL a c)).known = true then [] else (runNL a c).flatten
def runNL : List Term → List Cell → List (List Int)
  | [], _ => []
  | t :: l, c => runN t c :: runNL l c
end
theorem runNL_map (c : List Cell) : ∀ l, runNL l c = l.map fun t => runN t c
  | [] => rfl
  | t :: l => by simp [runNL, runNL_map c l]
theorem runN_eq (t : Term) (c : List Cell) : runN t c = if t.op = 0 ∨ t.op = 1 then [] else if t.op = 2 then (if (valueC t.n c).known = true then [] else [t.n])
    else if t.op = 6 ∧ ((t.args.map fun a => eval a c).getD 0 ⟨false, 0⟩).known = true then (t.args.map fun a => runN a c).getD (2 - ((t.args.map fun a => eval a c).getD 0 ⟨false, 0⟩).n).toNat []
    else if (evalN t.op (t.args.map fun a => eval a c)).known = true then [] else (t.args.map fun a => runN a c).flatten := by
  cases t; simp only [runN, evalL_map, runNL_map, Term.op, Term.n, Term.args]; rfl
section
variable (c : List Cell)
theorem rn_leaf (o n : Int) (a : List Term) (h : o = 0 ∨ o = 1) : runN (.mk o n a) c = [] := by rw [runN_eq]; simp [Term.op, h]
theorem rn_var (n : Int) (a : List Term) : runN (.mk 2 n a) c = if (valueC n c).known = true then [] else [n] := by rw [runN_eq]; simp [Term.op, Term.n]; rfl
theorem rn_op {o : Int} (h3 : 3 ≤ o) (h6 : o ≠ 6) (n : Int) (a : List Term) : runN (.mk o n a) c = if (eval (.mk o n a) c).known = true then [] else (a.map fun t => runN t c).flatten := by
  have e0 : ¬ (o = 0 ∨ o = 1) := by omega
  have e2 : ¬ o = 2 := by omega
  have e : evalN o (a.map fun t => eval t c) = eval (.mk o n a) c := by
    rw [eval_eq]; simp [Term.op, Term.args, e0, e2]
  rw [runN_eq]
  simp only [Term.op, Term.args, e0, e2, h6, e, if_false, false_and]
theorem rn_ite (n : Int) (x y z : Term) : runN (.mk 6 n [x, y, z]) c = if (eval x c).known = true then [runN x c, runN y c, runN z c].getD (2 - (eval x c).n).toNat []
    else if (eval (.mk 6 n [x, y, z]) c).known = true then [] else runN x c ++ (runN y c ++ runN z c) := by
  have e : evalN 6 [eval x c, eval y c, eval z c] = eval (.mk 6 n [x, y, z]) c := by
    rw [eval_eq (.mk 6 n [x, y, z])]; simp [Term.op, Term.args]
  rw [runN_eq]
  simp only [Term.op, Term.args, List.map, e]
  simp
end
theorem logic_known {a b : Cell} {k : Int} : (logic a b k).known = true ↔ (a.known = true ∧ a.n = k ∨ b.known = true ∧ b.n = k) ∨ (a.known = true ∧ b.known = true) := by
  unfold logic
  split
  · rename_i h; simp [h]
  · rename_i h
    split
    · rename_i h2; simp [h2]
    · rename_i h2; simp [h, h2]
theorem bit_of {k : Int} {x : Cell} (h : VR 1 x) (hk : x.known = true) : x.n = 0 ∨ x.n = 1 := by
  simp only [VR, hk, if_true] at h; exact h.2 trivial
theorem runN_nil {t : Term} {k : Int} (h : WT t k) (c : List Cell) : runN t c = [] ↔ (eval t c).known = true := by
  induction h with
  | int n _ => rw [rn_leaf _ _ _ _ (.inl rfl), ev_int]; simp
  | bool n _ => rw [rn_leaf _ _ _ _ (.inr rfl), ev_bool]; simp
  | var n _ _ => rw [rn_var, ev_var]; cases (valueC n c).known <;> simp
  | not a _ ih =>
    rw [rn_op _ (by omega) (by omega)]
    cases hk : (eval (.mk 3 0 [a]) c).known
    · rw [ev_not] at hk
      cases ha : (eval a c).known
      · have : runN a c ≠ [] := fun h => by rw [ih.1 h] at ha; cases ha
        simp [this]
      · simp [ha] at hk
    · simp
  | andor o a b ho _ _ iha ihb =>
    rw [rn_op _ (by omega) (by omega)]
    cases hk : (eval (.mk o 0 [a, b]) c).known
    · have hl : ¬ ((eval a c).known = true ∧ (eval b c).known = true) := by
        intro h2
        rcases ho with rfl | rfl
        · rw [ev_and, (logic_known.2 (.inr h2))] at hk; cases hk
        · rw [ev_or, (logic_known.2 (.inr h2))] at hk; cases hk
      rw [← iha, ← ihb] at hl
      simp; exact fun h1 h2 => hl ⟨h1, h2⟩
    · simp
  | ite x y z k wx _ _ ihx ihy ihz =>
    rw [rn_ite]
    cases hx : (eval x c).known
    · have : runN x c ≠ [] := fun h => by rw [ihx.1 h] at hx; cases hx
      simp only [Bool.false_eq_true, if_false]
      cases hk : (eval (.mk 6 0 [x, y, z]) c).known
      · simp [this]
      · simp
    · rw [ev_ite]
      simp only [hx, if_true]
      rcases bit_of (k := 1) (vr_eval wx c) hx with h0 | h0 <;> rw [h0] <;> simp
      · exact ihz
      · exact ihy
  | less a b _ _ iha ihb =>
    rw [rn_op _ (by omega) (by omega)]
    cases hk : (eval (.mk 7 0 [a, b]) c).known
    · rw [ev_bin _ (by omega)] at hk
      have hl : ¬ ((eval a c).known = true ∧ (eval b c).known = true) := by
        rintro ⟨h1, h2⟩; rw [h1, h2] at hk; simp [number_known] at hk
      rw [← iha, ← ihb] at hl
      simp; exact fun h1 h2 => hl ⟨h1, h2⟩
    · simp
  | eq a b k _ _ iha ihb =>
    rw [rn_op _ (by omega) (by omega)]
    cases hk : (eval (.mk 8 0 [a, b]) c).known
    · rw [ev_bin _ (by omega)] at hk
      have hl : ¬ ((eval a c).known = true ∧ (eval b c).known = true) := by
        rintro ⟨h1, h2⟩; rw [h1, h2] at hk; simp [number_known] at hk
      rw [← iha, ← ihb] at hl
      simp; exact fun h1 h2 => hl ⟨h1, h2⟩
    · simp
  | ar o a b h9 _ _ _ iha ihb =>
    rw [rn_op _ (by omega) (by omega)]
    cases hk : (eval (.mk o 0 [a, b]) c).known
    · rw [ev_bin _ (by omega)] at hk
      have hl : ¬ ((eval a c).known = true ∧ (eval b c).known = true) := by
        rintro ⟨h1, h2⟩; rw [h1, h2] at hk; simp [number_known] at hk
      rw [← iha, ← ihb] at hl
      simp; exact fun h1 h2 => hl ⟨h1, h2⟩
    · simp
theorem used_op {o n : Int} {a : List Term} (h : o ≠ 2) (v : Int) : used (.mk o n a) v = usedL a v := by rw [used_eq]; simp [Term.op, Term.args, h]
theorem usedL_any (v : Int) : ∀ l : List Term, usedL l v = l.any fun t => used t v
  | [] => rfl
  | t :: l => by simp only [usedL, List.any_cons, usedL_any v l]; cases used t v <;> simp
theorem runN_mem {t : Term} {k : Int} (h : WT t k) (c : List Cell) : ∀ v ∈ runN t c, (valueC v c).known = false ∧ used t v = true ∧ 0 ≤ v ∧ v < 20 := by
  have sub : ∀ {o n : Int} {a : List Term}, 3 ≤ o → o ≠ 6 → (∀ t ∈ a, ∀ v ∈ runN t c, (valueC v c).known = false ∧ used t v = true ∧ 0 ≤ v ∧ v < 20) → ∀ v ∈ runN (.mk o n a) c, (valueC v c).known = false ∧ used (.mk o n a) v = true ∧ 0 ≤ v ∧ v < 20 := by
    intro o n a h3 h6 ih v hv
    rw [rn_op _ h3 h6] at hv
    split at hv
    · simp at hv
    · simp only [List.mem_flatten, List.mem_map] at hv
      obtain ⟨l, ⟨t, ht, rfl⟩, hv⟩ := hv
      obtain ⟨g1, g2, g3⟩ := ih t ht v hv
      refine ⟨g1, ?_, g3⟩
      rw [used_op (by omega), usedL_any, List.any_eq_true]
      exact ⟨t, ht, g2⟩
  induction h with
  | int n _ => rw [rn_leaf _ _ _ _ (.inl rfl)]; simp
  | bool n _ => rw [rn_leaf _ _ _ _ (.inr rfl)]; simp
  | var n h0 h20 =>
    rw [rn_var]
    cases hv : (valueC n c).known
    · intro v hm
      simp at hm
      subst hm
      exact ⟨hv, by rw [used_eq]; simp [Term.op, Term.n], h0, h20⟩
    · simp
  | not a _ ih => exact sub (by omega) (by omega) (by simpa using ih)
  | andor o a b ho _ _ iha ihb => exact sub (by omega) (by omega) (by simp only [List.mem_cons, List.not_mem_nil, or_false, forall_eq_or_imp, forall_eq]; exact ⟨iha, ihb⟩)
  | less a b _ _ iha ihb => exact sub (by omega) (by omega) (by simp only [List.mem_cons, List.not_mem_nil, or_false, forall_eq_or_imp, forall_eq]; exact ⟨iha, ihb⟩)
  | eq a b k _ _ iha ihb => exact sub (by omega) (by omega) (by simp only [List.mem_cons, List.not_mem_nil, or_false, forall_eq_or_imp, forall_eq]; exact ⟨iha, ihb⟩)
  | ar o a b _ _ _ _ iha ihb => exact sub (by omega) (by omega) (by simp only [List.mem_cons, List.not_mem_nil, or_false, forall_eq_or_imp, forall_eq]; exact ⟨iha, ihb⟩)
  | ite x y z k wx _ _ ihx ihy ihz =>
    intro v hv
    rw [used_op (by omega), usedL_any]
    simp only [List.any_cons, List.any_nil, Bool.or_false, Bool.or_eq_true]
    rw [rn_ite] at hv
    cases hx : (eval x c).known
    · simp only [hx, Bool.false_eq_true, if_false] at hv
      split at hv
      · simp at hv
      · simp only [List.mem_append] at hv
        rcases hv with hv | hv | hv
        · obtain ⟨g1, g2, g3⟩ := ihx v hv; exact ⟨g1, .inl g2, g3⟩
        · obtain ⟨g1, g2, g3⟩ := ihy v hv; exact ⟨g1, .inr (.inl g2), g3⟩
        · obtain ⟨g1, g2, g3⟩ := ihz v hv; exact ⟨g1, .inr (.inr g2), g3⟩
    · simp only [hx, if_true] at hv
      rcases bit_of (k := 1) (vr_eval wx c) hx with h0 | h0 <;> rw [h0] at hv <;> simp at hv
      · obtain ⟨g1, g2, g3⟩ := ihz v hv; exact ⟨g1, .inr (.inr g2), g3⟩
      · obtain ⟨g1, g2, g3⟩ := ihy v hv; exact ⟨g1, .inr (.inl g2), g3⟩
end Go.Abs

